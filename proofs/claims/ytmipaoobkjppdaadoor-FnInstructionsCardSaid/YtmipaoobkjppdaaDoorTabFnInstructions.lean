/- What the row of FnInstructions lists of the package-level variables, as facts of a world that last; a world that holds them. -/
import Derived.Test.YtmipaoobkjppdaaDoorRows
import Derived.Lib.LaidTab
import Derived.Stop.LaidErr
import Derived.LaidLaws
import Derived.MakeChecks
import Derived.Below
import Derived.WalkKit
import Derived.KernelRfl
import Derived.Lib.ItoaNum
set_option maxRecDepth 100000
set_option linter.unusedVariables false
namespace Go.Proofs.YtmipaoobkjppdaaDoor.TabFnInstructions
open Go.RowKit Go.ChangeShapes

theorem var_lt {P : Program} {w : World} {n : String} {g : Nat} {cs : Array Value} (hg : P.globalNamed n = some g) (h : w.var? P n = some cs) : g < w.heap.size := by
  unfold World.var? at h
  simp only [hg, Option.bind_some] at h
  rcases Nat.lt_or_ge g w.heap.size with h' | h'
  · exact h'
  · simp [Array.getElem?_eq_none h'] at h
theorem var_lasts {P : Program} {w w' : World} {n : String} {g : Nat} {cs : Array Value} (hg : P.globalNamed n = some g) (hb : Below w.heap.size w w') (h : w.var? P n = some cs) : w'.var? P n = some cs := by
  have hl := var_lt hg h
  unfold World.var? at h ⊢
  simp only [hg, Option.bind_some] at h ⊢
  rw [hb.block g hl]
  exact h
def strData {H : Type} (zs : List (List UInt8)) : DataW H := .agg (zs.map fun z => .lit (.string z))
theorem cells_of_strs {H : Type} {enc : TypeId × Value → H} {P : Program} {w : World} {base : Nat} {sp : Nat → Bool} {held : Bool} {fuel : Nat} {t e : TypeId} {n : Nat} {cs : List Value} {zs : List (List UInt8)} {p : List MemPlace}
    (ht : P.underlying t = some (.array n e)) (he : P.underlying e = some .string) (hce : P.cellsOf e = 1) (hct : P.cellsOf t = n)
    (h : DataW.trod enc P w base sp held fuel t cs = some (strData zs, p)) : cs = zs.map fun z => Value.string ⟨z.toArray⟩ := by
  cases fuel with
  | zero => simp [DataW.trod] at h
  | succ fuel =>
    simp only [DataW.trod, ht, hce, hct, Nat.mul_one] at h
    split at h
    · rename_i hl
      obtain ⟨xs, hm, hx⟩ := Option.map_eq_some_iff.1 h
      have hxs : xs.map (·.1) = zs.map fun z => (DataW.lit (.string z) : DataW H) := by
        have := congrArg Prod.fst hx
        simpa [strData] using this
      have hxl : xs.length = n := by simpa using Lib.mapM_length hm
      have hzl : zs.length = n := by
        have := congrArg List.length hxs
        simp at this
        omega
      apply List.ext_getElem?
      intro i
      by_cases hi : i < n
      · obtain ⟨b, hb, hf⟩ := Lib.mapM_at hm i i (by simp [hi])
        obtain ⟨z, hc, rfl, _⟩ := DataW.trod_string he hf
        have h1 : cs[i]? = some (.string z) := by
          have := congrArg (·[0]?) hc
          simpa [List.getElem?_take, List.getElem?_drop] using this
        have h2 : (xs.map (·.1))[i]? = some (DataW.lit (.string z.data.toList) : DataW H) := by simp [hb]
        rw [hxs] at h2
        simp only [List.getElem?_map, Option.map_eq_some_iff, DataW.lit.injEq, Lit.string.injEq] at h2
        obtain ⟨z', hz', e⟩ := h2
        rw [h1, List.getElem?_map, hz']
        subst e
        rfl
      · rw [List.getElem?_eq_none (by omega), List.getElem?_eq_none (by simp; omega)]
    · cases h
theorem strs_of_head {P : Program} {W : World} {name : String} {zs : List (List UInt8)} {rest : List (String × DataW Unit)} {g : Nat} {t e : TypeId} {n : Nat}
    (hg : P.globalNamed name = some g) (hty : (P.globals[g]?).map (·.type) = some t) (ht : P.underlying t = some (.array n e)) (he : P.underlying e = some .string) (hce : P.cellsOf e = 1) (hct : P.cellsOf t = n)
    (h : laidMet P ((name, strData zs) :: rest) W) : W.var? P name = some (zs.map fun z => Value.string ⟨z.toArray⟩).toArray := by
  obtain ⟨ps, ⟨g', t', cs, fuel, p, q, hg', ht', hvar, hd, _, _⟩, _⟩ := h
  obtain rfl := Option.some.inj (hg.symm.trans hg')
  obtain rfl := Option.some.inj (hty.symm.trans ht')
  rw [hvar, ← cells_of_strs ht he hce hct hd]

structure Tabs (w : World) : Prop where
  opNames : w.var? Tryd.prog "loop.example/g00591/impl.opNames" = some (([[], [99, 111, 110, 115, 116], [97, 114, 103], [115, 108, 111, 116], [115, 101, 108, 102], [97, 100, 100], [115, 101, 110, 100], [110, 101, 119], [115, 101, 116], [115, 107, 105, 112], [114, 101, 116, 117, 114, 110]] : List (List UInt8)).map fun s => Value.string ⟨s.toArray⟩).toArray
theorem Tabs.below {w w' : World} (h : Tabs w) (hb : Below w.heap.size w w') : Tabs w' :=
  ⟨var_lasts (g := 0) (by kernel_rfl) hb h.opNames⟩
theorem tabs_of {W : World} (hh : laidMetH Tryd.prog Rows.fnInstructionsRow.laid W) : Tabs W := by
  have h : laidMet Tryd.prog Rows.fnInstructionsRow.laid W := (Go.MakeChecks.laidMetH_plain _ _ _ (by kernel_rfl)) ▸ hh
  exact ⟨strs_of_head (g := 0) (t := 63) (e := 9) (n := 11) (by kernel_rfl) (by kernel_rfl) Tryd.underlying63 Tryd.underlying9 (by kernel_rfl) (by kernel_rfl) (show laidMet _ ((_, strData [[], [99, 111, 110, 115, 116], [97, 114, 103], [115, 108, 111, 116], [115, 101, 108, 102], [97, 100, 100], [115, 101, 110, 100], [110, 101, 119], [115, 101, 116], [115, 107, 105, 112], [114, 101, 116, 117, 114, 110]]) :: _) _ from h)⟩
noncomputable def laidWorld (os : Os) : World :=
  let w0 := World.holding Tryd.prog os ⟨#[], #[], []⟩
  { w0 with heap := (w0.heap).modify 0 fun
      | .cells _ t frozen => .cells #[.string ⟨#[]⟩, .string ⟨#[99, 111, 110, 115, 116]⟩, .string ⟨#[97, 114, 103]⟩, .string ⟨#[115, 108, 111, 116]⟩, .string ⟨#[115, 101, 108, 102]⟩, .string ⟨#[97, 100, 100]⟩, .string ⟨#[115, 101, 110, 100]⟩, .string ⟨#[110, 101, 119]⟩, .string ⟨#[115, 101, 116]⟩, .string ⟨#[115, 107, 105, 112]⟩, .string ⟨#[114, 101, 116, 117, 114, 110]⟩] t frozen
      | o => o }
theorem laid_met (os : Os) (args : Array Value) : laidMet Tryd.prog Rows.fnInstructionsRow.laid ((laidWorld os).forCall (fun _ _ => 0) ⟨#[], args, []⟩).memory :=
  laidMet_of_run (ps := [.cell 0 0, .cell 0 1, .cell 0 2, .cell 0 3, .cell 0 4, .cell 0 5, .cell 0 6, .cell 0 7, .cell 0 8, .cell 0 9, .cell 0 10]) 8 (by kernel_rfl) (by kernel_rfl) (by kernel_rfl)
end Go.Proofs.YtmipaoobkjppdaaDoor.TabFnInstructions
