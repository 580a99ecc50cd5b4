-- Written by a program of this session, after the kit's print, with contracts by hand.
import Derived.Test.YtmipaoobkjppdaaDoorQFnExactParseInstrx0
import Derived.Test.YtmipaoobkjppdaaDoorQFnExactParseInstrx1
import Derived.Test.YtmipaoobkjppdaaDoorQFnExactParseInstrx7
import Derived.Test.YtmipaoobkjppdaaDoorQFnExactParseInstrx8
namespace Go.Proofs.YtmipaoobkjppdaaDoor.QFnExactParseInstr
open Go.RowKit Go.Proofs.YtmipaoobkjppdaaDoorW.PrintWords Go.Proofs.YtmipaoobkjppdaaDoorW.PrintLast Go.Proofs.YtmipaoobkjppdaaDoorW.PrintMore
attribute [local go_sem] max2_int min2_int max_two min_two max_three min_three max_four min_four   -- for this text's walks alone
set_option linter.unusedVariables false
set_option linter.unusedSimpArgs false

attribute [local go_sem high] eqA27
/-! ### impl_isInstr: function 43 -/
def impl_isInstr.j0 : Nat → Int → Bool → Int → Int → Int → Int → Int → ByteArray → Option (Bool)
  | 0, _, _, _, _, _, _, _, _ => none
  | k + 1, x4, x68, x192000, x192001, x192002, x192003, x192004, x192005 => if x68 = true then (if (x192002 == 0 && (x192003 == 0 && (x192004 == 0 && (x192005.toList == ([] : List UInt8))))) = true then ((impl_isReg.f x192001).bind fun t198 => (some t198)) else (some false)) else (if x4 = 5 then (if (x192004 == 0 && (x192005.toList == ([] : List UInt8))) = true then ((impl_isReg.f x192001).bind fun t199 => (if t199 = true then ((impl_isReg.f x192002).bind fun t200 => (if t200 = true then ((impl_isReg.f x192003).bind fun t201 => (some t201)) else (some false))) else (some false))) else (some false)) else (if x4 = 6 then ((impl_isReg.f x192001).bind fun t202 => (if t202 = true then ((impl_isReg.f x192002).bind fun t203 => (if t203 = true then ((impl_pairOk.f x192003 x192004).bind fun t204 => (if t204 = true then ((impl_isName.f k x192005).bind fun t205 => (some t205)) else (some false))) else (some false))) else (some false))) else (if x4 = 7 then ((impl_isReg.f x192001).bind fun t206 => (if t206 = true then (if x192002 = 0 then ((impl_pairOk.f x192003 x192004).bind fun t207 => (if t207 = true then ((impl_isName.f k x192005).bind fun t208 => (some t208)) else (some false))) else (some false)) else (some false))) else (if x4 = 8 then (if (x192003 == 0 && (x192004 == 0 && (x192005.toList == ([] : List UInt8)))) = true then ((impl_in.f x192001 0 2).bind fun t209 => (if t209 = true then ((impl_isReg.f x192002).bind fun t210 => (some t210)) else (some false))) else (some false)) else (if x4 = 9 then (if (x192003 == 0 && (x192004 == 0 && (x192005.toList == ([] : List UInt8)))) = true then ((impl_isReg.f x192001).bind fun t211 => (if t211 = true then ((impl_in.f x192002 1 12).bind fun t212 => (some t212)) else (some false))) else (some false)) else (some false))))))
def impl_isInstr.f (k : Nat) (a0_0 : Int) (a0_1 : Int) (a0_2 : Int) (a0_3 : Int) (a0_4 : Int) (a0_5 : ByteArray) : Option (Bool) := if a0_0 = 1 then (if (a0_3 == 0 && (a0_4 == 0 && (a0_5.toList == ([] : List UInt8)))) = true then ((impl_isReg.f a0_1).bind fun t192 => (if t192 = true then ((impl_in.f a0_2 0 999999).bind fun t193 => (some t193)) else (some false))) else (some false)) else (if a0_0 = 2 then (if (a0_3 == 0 && (a0_4 == 0 && (a0_5.toList == ([] : List UInt8)))) = true then ((impl_isReg.f a0_1).bind fun t194 => (if t194 = true then ((impl_in.f a0_2 0 1).bind fun t195 => (some t195)) else (some false))) else (some false)) else (if a0_0 = 3 then (if (a0_3 == 0 && (a0_4 == 0 && (a0_5.toList == ([] : List UInt8)))) = true then ((impl_isReg.f a0_1).bind fun t196 => (if t196 = true then ((impl_in.f a0_2 0 2).bind fun t197 => (some t197)) else (some false))) else (some false)) else (if a0_0 = 4 then (impl_isInstr.j0 k a0_0 (a0_0 == 4) a0_0 a0_1 a0_2 a0_3 a0_4 a0_5) else (impl_isInstr.j0 k a0_0 (a0_0 == 10) a0_0 a0_1 a0_2 a0_3 a0_4 a0_5))))
theorem impl_isInstr.mono_l : ∀ k, (∀ y0 y1 y2 y3 y4 y5 y6 y7, LeO (impl_isInstr.j0 k y0 y1 y2 y3 y4 y5 y6 y7) (impl_isInstr.j0 (k + 1) y0 y1 y2 y3 y4 y5 y6 y7))
  | 0 => fun _ _ _ _ _ _ _ _ r h => by simp [impl_isInstr.j0] at h
  | k + 1 => by
    have ih0 := impl_isInstr.mono_l k
    · intro y0 y1 y2 y3 y4 y5 y6 y7
      unfold impl_isInstr.j0
      repeat' first
      | (with_reducible exact ih0 _ _ _ _ _ _ _ _)
      | (with_reducible exact impl_isName.mono _ _)
      | (with_reducible exact LeO.refl _)
      | (with_reducible exact LeO.none _)
      | (with_reducible refine LeO.ite ?_ ?_)
      | (with_reducible refine LeO.bind ?_ (fun _ => ?_))
      | exact ih0 _ _ _ _ _ _ _ _
      | exact impl_isName.mono _ _
      | exact LeO.none _
      | refine LeO.ite ?_ ?_
      | refine LeO.bind ?_ (fun _ => ?_)
theorem impl_isInstr.mono : ∀ a0 a1 a2 a3 a4 a5 k, LeO (impl_isInstr.f k a0 a1 a2 a3 a4 a5) (impl_isInstr.f (k + 1) a0 a1 a2 a3 a4 a5) := by
  intro a0 a1 a2 a3 a4 a5 k
  have ih0 := impl_isInstr.mono_l k
  unfold impl_isInstr.f
  repeat' first
      | (with_reducible exact ih0 _ _ _ _ _ _ _ _)
      | (with_reducible exact impl_isName.mono _ _)
      | (with_reducible exact LeO.refl _)
      | (with_reducible exact LeO.none _)
      | (with_reducible refine LeO.ite ?_ ?_)
      | (with_reducible refine LeO.bind ?_ (fun _ => ?_))
      | exact ih0 _ _ _ _ _ _ _ _
      | exact impl_isName.mono _ _
      | exact LeO.none _
      | refine LeO.ite ?_ ?_
      | refine LeO.bind ?_ (fun _ => ?_)
set_option maxHeartbeats 8000000 in
set_option maxRecDepth 100000 in
theorem impl_isInstr.calls (k : Nat) (a0_0 : Int) (a0_1 : Int) (a0_2 : Int) (a0_3 : Int) (a0_4 : Int) (a0_5 : ByteArray) (r : Bool) (w : World) (h : impl_isInstr.f k a0_0 a0_1 a0_2 a0_3 a0_4 a0_5 = some r) :
    Calls Tryd.prog 43 #[.agg #[.int .i64 a0_0, .int .i64 a0_1, .int .i64 a0_2, .int .i64 a0_3, .int .i64 a0_4, .string a0_5]] w fun e w' => e = .returned (.bool r) ∧ Below w.heap.size w w' := by
  have hu27 := Tryd.underlying27
  have HB := Aside0.mk (Below.refl w.heap.size w)
  have H : (if a0_0 = 1 then (if (a0_3 == 0 && (a0_4 == 0 && (a0_5.toList == ([] : List UInt8)))) = true then ((impl_isReg.f a0_1).bind fun t192 => (if t192 = true then ((impl_in.f a0_2 0 999999).bind fun t193 => (some t193)) else (some false))) else (some false)) else (if a0_0 = 2 then (if (a0_3 == 0 && (a0_4 == 0 && (a0_5.toList == ([] : List UInt8)))) = true then ((impl_isReg.f a0_1).bind fun t194 => (if t194 = true then ((impl_in.f a0_2 0 1).bind fun t195 => (some t195)) else (some false))) else (some false)) else (if a0_0 = 3 then (if (a0_3 == 0 && (a0_4 == 0 && (a0_5.toList == ([] : List UInt8)))) = true then ((impl_isReg.f a0_1).bind fun t196 => (if t196 = true then ((impl_in.f a0_2 0 2).bind fun t197 => (some t197)) else (some false))) else (some false)) else (if a0_0 = 4 then (impl_isInstr.j0 k a0_0 (a0_0 == 4) a0_0 a0_1 a0_2 a0_3 a0_4 a0_5) else (impl_isInstr.j0 k a0_0 (a0_0 == 10) a0_0 a0_1 a0_2 a0_3 a0_4 a0_5))))) = some r := h
  clear h
  by_cases c2 : a0_0 = 1
  · rw [if_pos c2] at H
    have c2b0 : (a0_0 == 1) = true := beq_iff_eq.mpr c2
    have c2b1 : (a0_0 != 1) = false := bne_eq_false_iff_eq.mpr c2
    clear c2
    by_cases c3 : (a0_3 == 0 && (a0_4 == 0 && (a0_5.toList == ([] : List UInt8)))) = true
    · rw [if_pos c3] at H
      have c3b0 : (a0_3 == 0 && (a0_4 == 0 && (a0_5.toList == ([] : List UInt8)))) = true := c3
      have c3b0e : (a0_3 == 0 && (a0_4 == 0 && a0_5.toList.isEmpty)) = true := by rw [show a0_5.toList.isEmpty = (a0_5.toList == ([] : List UInt8)) from by cases a0_5.toList <;> rfl]; exact c3b0
      (try (have c3b1 : decide (a0_3 = 0 && (a0_4 == 0 && (a0_5.toList == ([] : List UInt8)))) = true := by simpa using c3))
      (try (have c3b2 : (a0_3 == 0 && (a0_4 == 0 && (a0_5.toList == ([] : List UInt8)))) = true := by simpa using c3))
      clear c3
      replace H := Option.bind_eq_some_iff.mp H
      obtain ⟨t192, A40, H⟩ := H
      replace H : (if t192 = true then ((impl_in.f a0_2 0 999999).bind fun t193 => (some t193)) else (some false)) = some r := H
      have A4 := Aside0.mk A40
      clear A40
      by_cases c5 : t192 = true
      · subst c5
        have H1 : ((impl_in.f a0_2 0 999999).bind fun t193 => (some t193)) = some r := by rw [if_pos rfl] at H; exact H
        clear H
        have H := H1
        clear H1
        replace H := Option.bind_eq_some_iff.mp H
        obtain ⟨t193, A60, H⟩ := H
        replace H : (some t193) = some r := H
        have A6 := Aside0.mk A60
        clear A60
        obtain rfl := Option.some.inj H
        go_enter Tryd.func43, Tryd.ntmps43
        go_wp2_with (first | ((with_reducible refine gate_dst (N := 1) rfl ?_); refine box_event ?hg (N := 1) ?hd (cs := #[.int .i64 a0_0, .int .i64 a0_1, .int .i64 a0_2, .int .i64 a0_3, .int .i64 a0_4, .string a0_5]) (t := 27) ?hr ?_; (case hd => rfl); (case hg => rfl); (case hr => first | (go_simp; done) | (go_simp; rfl)); intro gb191 hg w7 hbox hb; have n0_ := Aside0.mk (below_step (by repeat (first | (with_reducible first | exact HB.out | apply below_alloc | apply pw_below_drewN | apply below_drew1) | exact HB.out)) hb); have n1_ := Aside0.mk (hbox); have n2_ := Aside0.mk ((by rw [hg]; exact (below_size (by repeat (first | (with_reducible first | exact HB.out | apply below_alloc | apply pw_below_drewN | apply below_drew1) | exact HB.out))) : w.heap.size ≤ gb191)); have n3_ := Aside0.mk ((by rw [hg]; exact (below_size (by repeat (first | (with_reducible first | exact HB.out | apply below_alloc | apply pw_below_drewN | apply below_drew1) | exact HB.out))) : w.heap.size ≤ gb191)); clear HB; have HB := n0_; have BK191 := n1_; have GW191 := n2_; have GE191 := n3_; clear n0_ n1_ n2_ n3_; clear hb hbox hg; have hcz8_0 : w7.cell? ⟨gb191, 0, none⟩ = some (.int .i64 a0_0) := (blk_cell BK191.out 0).trans rfl; have hcz8_1 : w7.cell? ⟨gb191, 1, none⟩ = some (.int .i64 a0_1) := (blk_cell BK191.out 1).trans rfl; have hcz8_2 : w7.cell? ⟨gb191, 2, none⟩ = some (.int .i64 a0_2) := (blk_cell BK191.out 2).trans rfl; have hcz8_3 : w7.cell? ⟨gb191, 3, none⟩ = some (.int .i64 a0_3) := (blk_cell BK191.out 3).trans rfl; have hcz8_4 : w7.cell? ⟨gb191, 4, none⟩ = some (.int .i64 a0_4) := (blk_cell BK191.out 4).trans rfl; have hcz8_5 : w7.cell? ⟨gb191, 5, none⟩ = some (.string a0_5) := (blk_cell BK191.out 5).trans rfl; have hfz8_0 := blk_frozen BK191.out 0; have hfz8_1 := blk_frozen BK191.out 1; have hfz8_2 := blk_frozen BK191.out 2; have hfz8_3 := blk_frozen BK191.out 3; have hfz8_4 := blk_frozen BK191.out 4; have hfz8_5 := blk_frozen BK191.out 5) | (go_at_call 44; (with_reducible refine (impl_isReg.calls a0_1 true _ A4.out).mono ?_); rintro e w' ⟨rfl, ⟨nd, rfl⟩⟩) | (go_at_call 39; (with_reducible refine (impl_in.calls a0_2 0 999999 t193 _ A6.out).mono ?_); rintro e w' ⟨rfl, ⟨nd, rfl⟩⟩))
        go_ret
        exact ⟨by first | rfl | (simp [errW_none, errW_some] <;> rfl) | (simp [*, errW_none, errW_some] <;> rfl), by repeat (first | (with_reducible first | exact HB.out | apply below_alloc | apply pw_below_drewN | apply below_drew1 | refine below_set ?_ GE191.out) | exact HB.out)⟩
      · replace c5 := Bool.eq_false_iff.mpr c5
        subst c5
        have H1 : (some false) = some r := by rw [if_neg (show ¬ (false = true) by decide)] at H; exact H
        clear H
        have H := H1
        clear H1
        obtain rfl := Option.some.inj H
        go_enter Tryd.func43, Tryd.ntmps43
        go_wp2_with (first | ((with_reducible refine gate_dst (N := 1) rfl ?_); refine box_event ?hg (N := 1) ?hd (cs := #[.int .i64 a0_0, .int .i64 a0_1, .int .i64 a0_2, .int .i64 a0_3, .int .i64 a0_4, .string a0_5]) (t := 27) ?hr ?_; (case hd => rfl); (case hg => rfl); (case hr => first | (go_simp; done) | (go_simp; rfl)); intro gb191 hg w9 hbox hb; have n0_ := Aside0.mk (below_step (by repeat (first | (with_reducible first | exact HB.out | apply below_alloc | apply pw_below_drewN | apply below_drew1) | exact HB.out)) hb); have n1_ := Aside0.mk (hbox); have n2_ := Aside0.mk ((by rw [hg]; exact (below_size (by repeat (first | (with_reducible first | exact HB.out | apply below_alloc | apply pw_below_drewN | apply below_drew1) | exact HB.out))) : w.heap.size ≤ gb191)); have n3_ := Aside0.mk ((by rw [hg]; exact (below_size (by repeat (first | (with_reducible first | exact HB.out | apply below_alloc | apply pw_below_drewN | apply below_drew1) | exact HB.out))) : w.heap.size ≤ gb191)); clear HB; have HB := n0_; have BK191 := n1_; have GW191 := n2_; have GE191 := n3_; clear n0_ n1_ n2_ n3_; clear hb hbox hg; have hcz10_0 : w9.cell? ⟨gb191, 0, none⟩ = some (.int .i64 a0_0) := (blk_cell BK191.out 0).trans rfl; have hcz10_1 : w9.cell? ⟨gb191, 1, none⟩ = some (.int .i64 a0_1) := (blk_cell BK191.out 1).trans rfl; have hcz10_2 : w9.cell? ⟨gb191, 2, none⟩ = some (.int .i64 a0_2) := (blk_cell BK191.out 2).trans rfl; have hcz10_3 : w9.cell? ⟨gb191, 3, none⟩ = some (.int .i64 a0_3) := (blk_cell BK191.out 3).trans rfl; have hcz10_4 : w9.cell? ⟨gb191, 4, none⟩ = some (.int .i64 a0_4) := (blk_cell BK191.out 4).trans rfl; have hcz10_5 : w9.cell? ⟨gb191, 5, none⟩ = some (.string a0_5) := (blk_cell BK191.out 5).trans rfl; have hfz10_0 := blk_frozen BK191.out 0; have hfz10_1 := blk_frozen BK191.out 1; have hfz10_2 := blk_frozen BK191.out 2; have hfz10_3 := blk_frozen BK191.out 3; have hfz10_4 := blk_frozen BK191.out 4; have hfz10_5 := blk_frozen BK191.out 5) | (go_at_call 44; (with_reducible refine (impl_isReg.calls a0_1 false _ A4.out).mono ?_); rintro e w' ⟨rfl, ⟨nd, rfl⟩⟩))
        go_ret
        exact ⟨by first | rfl | (simp [errW_none, errW_some] <;> rfl) | (simp [*, errW_none, errW_some] <;> rfl), by repeat (first | (with_reducible first | exact HB.out | apply below_alloc | apply pw_below_drewN | apply below_drew1 | refine below_set ?_ GE191.out) | exact HB.out)⟩
    · rw [if_neg c3] at H
      have c3b0 : (a0_3 == 0 && (a0_4 == 0 && (a0_5.toList == ([] : List UInt8)))) = false := by simpa using c3
      have c3b0e : (a0_3 == 0 && (a0_4 == 0 && a0_5.toList.isEmpty)) = false := by rw [show a0_5.toList.isEmpty = (a0_5.toList == ([] : List UInt8)) from by cases a0_5.toList <;> rfl]; exact c3b0
      (try (have c3b1 : decide (a0_3 = 0 && (a0_4 == 0 && (a0_5.toList == ([] : List UInt8)))) = false := by simpa using c3))
      (try (have c3b2 : (a0_3 == 0 && (a0_4 == 0 && (a0_5.toList == ([] : List UInt8)))) = false := by simpa using c3))
      (try (have c3b3 : ¬ (a0_3 = 0 && (a0_4 == 0 && (a0_5.toList == ([] : List UInt8)))) := by simpa using c3))
      clear c3
      obtain rfl := Option.some.inj H
      go_enter Tryd.func43, Tryd.ntmps43
      go_wp2_with (first | ((with_reducible refine gate_dst (N := 1) rfl ?_); refine box_event ?hg (N := 1) ?hd (cs := #[.int .i64 a0_0, .int .i64 a0_1, .int .i64 a0_2, .int .i64 a0_3, .int .i64 a0_4, .string a0_5]) (t := 27) ?hr ?_; (case hd => rfl); (case hg => rfl); (case hr => first | (go_simp; done) | (go_simp; rfl)); intro gb191 hg w11 hbox hb; have n0_ := Aside0.mk (below_step (by repeat (first | (with_reducible first | exact HB.out | apply below_alloc | apply pw_below_drewN | apply below_drew1) | exact HB.out)) hb); have n1_ := Aside0.mk (hbox); have n2_ := Aside0.mk ((by rw [hg]; exact (below_size (by repeat (first | (with_reducible first | exact HB.out | apply below_alloc | apply pw_below_drewN | apply below_drew1) | exact HB.out))) : w.heap.size ≤ gb191)); have n3_ := Aside0.mk ((by rw [hg]; exact (below_size (by repeat (first | (with_reducible first | exact HB.out | apply below_alloc | apply pw_below_drewN | apply below_drew1) | exact HB.out))) : w.heap.size ≤ gb191)); clear HB; have HB := n0_; have BK191 := n1_; have GW191 := n2_; have GE191 := n3_; clear n0_ n1_ n2_ n3_; clear hb hbox hg; have hcz12_0 : w11.cell? ⟨gb191, 0, none⟩ = some (.int .i64 a0_0) := (blk_cell BK191.out 0).trans rfl; have hcz12_1 : w11.cell? ⟨gb191, 1, none⟩ = some (.int .i64 a0_1) := (blk_cell BK191.out 1).trans rfl; have hcz12_2 : w11.cell? ⟨gb191, 2, none⟩ = some (.int .i64 a0_2) := (blk_cell BK191.out 2).trans rfl; have hcz12_3 : w11.cell? ⟨gb191, 3, none⟩ = some (.int .i64 a0_3) := (blk_cell BK191.out 3).trans rfl; have hcz12_4 : w11.cell? ⟨gb191, 4, none⟩ = some (.int .i64 a0_4) := (blk_cell BK191.out 4).trans rfl; have hcz12_5 : w11.cell? ⟨gb191, 5, none⟩ = some (.string a0_5) := (blk_cell BK191.out 5).trans rfl; have hfz12_0 := blk_frozen BK191.out 0; have hfz12_1 := blk_frozen BK191.out 1; have hfz12_2 := blk_frozen BK191.out 2; have hfz12_3 := blk_frozen BK191.out 3; have hfz12_4 := blk_frozen BK191.out 4; have hfz12_5 := blk_frozen BK191.out 5))
      go_ret
      exact ⟨by first | rfl | (simp [errW_none, errW_some] <;> rfl) | (simp [*, errW_none, errW_some] <;> rfl), by repeat (first | (with_reducible first | exact HB.out | apply below_alloc | apply pw_below_drewN | apply below_drew1 | refine below_set ?_ GE191.out) | exact HB.out)⟩
  · rw [if_neg c2] at H
    have c2b0 : (a0_0 == 1) = false := beq_eq_false_iff_ne.mpr c2
    have c2b1 : (a0_0 != 1) = true := bne_iff_ne.mpr c2
    by_cases c13 : a0_0 = 2
    · rw [if_pos c13] at H
      have c13b0 : (a0_0 == 2) = true := beq_iff_eq.mpr c13
      have c13b1 : (a0_0 != 2) = false := bne_eq_false_iff_eq.mpr c13
      clear c13
      by_cases c14 : (a0_3 == 0 && (a0_4 == 0 && (a0_5.toList == ([] : List UInt8)))) = true
      · rw [if_pos c14] at H
        have c14b0 : (a0_3 == 0 && (a0_4 == 0 && (a0_5.toList == ([] : List UInt8)))) = true := c14
        have c14b0e : (a0_3 == 0 && (a0_4 == 0 && a0_5.toList.isEmpty)) = true := by rw [show a0_5.toList.isEmpty = (a0_5.toList == ([] : List UInt8)) from by cases a0_5.toList <;> rfl]; exact c14b0
        (try (have c14b1 : decide (a0_3 = 0 && (a0_4 == 0 && (a0_5.toList == ([] : List UInt8)))) = true := by simpa using c14))
        (try (have c14b2 : (a0_3 == 0 && (a0_4 == 0 && (a0_5.toList == ([] : List UInt8)))) = true := by simpa using c14))
        clear c14
        replace H := Option.bind_eq_some_iff.mp H
        obtain ⟨t194, A150, H⟩ := H
        replace H : (if t194 = true then ((impl_in.f a0_2 0 1).bind fun t195 => (some t195)) else (some false)) = some r := H
        have A15 := Aside0.mk A150
        clear A150
        by_cases c16 : t194 = true
        · subst c16
          have H1 : ((impl_in.f a0_2 0 1).bind fun t195 => (some t195)) = some r := by rw [if_pos rfl] at H; exact H
          clear H
          have H := H1
          clear H1
          replace H := Option.bind_eq_some_iff.mp H
          obtain ⟨t195, A170, H⟩ := H
          replace H : (some t195) = some r := H
          have A17 := Aside0.mk A170
          clear A170
          obtain rfl := Option.some.inj H
          go_enter Tryd.func43, Tryd.ntmps43
          go_wp2_with (first | ((with_reducible refine gate_dst (N := 1) rfl ?_); refine box_event ?hg (N := 1) ?hd (cs := #[.int .i64 a0_0, .int .i64 a0_1, .int .i64 a0_2, .int .i64 a0_3, .int .i64 a0_4, .string a0_5]) (t := 27) ?hr ?_; (case hd => rfl); (case hg => rfl); (case hr => first | (go_simp; done) | (go_simp; rfl)); intro gb191 hg w18 hbox hb; have n0_ := Aside0.mk (below_step (by repeat (first | (with_reducible first | exact HB.out | apply below_alloc | apply pw_below_drewN | apply below_drew1) | exact HB.out)) hb); have n1_ := Aside0.mk (hbox); have n2_ := Aside0.mk ((by rw [hg]; exact (below_size (by repeat (first | (with_reducible first | exact HB.out | apply below_alloc | apply pw_below_drewN | apply below_drew1) | exact HB.out))) : w.heap.size ≤ gb191)); have n3_ := Aside0.mk ((by rw [hg]; exact (below_size (by repeat (first | (with_reducible first | exact HB.out | apply below_alloc | apply pw_below_drewN | apply below_drew1) | exact HB.out))) : w.heap.size ≤ gb191)); clear HB; have HB := n0_; have BK191 := n1_; have GW191 := n2_; have GE191 := n3_; clear n0_ n1_ n2_ n3_; clear hb hbox hg; have hcz19_0 : w18.cell? ⟨gb191, 0, none⟩ = some (.int .i64 a0_0) := (blk_cell BK191.out 0).trans rfl; have hcz19_1 : w18.cell? ⟨gb191, 1, none⟩ = some (.int .i64 a0_1) := (blk_cell BK191.out 1).trans rfl; have hcz19_2 : w18.cell? ⟨gb191, 2, none⟩ = some (.int .i64 a0_2) := (blk_cell BK191.out 2).trans rfl; have hcz19_3 : w18.cell? ⟨gb191, 3, none⟩ = some (.int .i64 a0_3) := (blk_cell BK191.out 3).trans rfl; have hcz19_4 : w18.cell? ⟨gb191, 4, none⟩ = some (.int .i64 a0_4) := (blk_cell BK191.out 4).trans rfl; have hcz19_5 : w18.cell? ⟨gb191, 5, none⟩ = some (.string a0_5) := (blk_cell BK191.out 5).trans rfl; have hfz19_0 := blk_frozen BK191.out 0; have hfz19_1 := blk_frozen BK191.out 1; have hfz19_2 := blk_frozen BK191.out 2; have hfz19_3 := blk_frozen BK191.out 3; have hfz19_4 := blk_frozen BK191.out 4; have hfz19_5 := blk_frozen BK191.out 5) | (go_at_call 44; (with_reducible refine (impl_isReg.calls a0_1 true _ A15.out).mono ?_); rintro e w' ⟨rfl, ⟨nd, rfl⟩⟩) | (go_at_call 39; (with_reducible refine (impl_in.calls a0_2 0 1 t195 _ A17.out).mono ?_); rintro e w' ⟨rfl, ⟨nd, rfl⟩⟩))
          go_ret
          exact ⟨by first | rfl | (simp [errW_none, errW_some] <;> rfl) | (simp [*, errW_none, errW_some] <;> rfl), by repeat (first | (with_reducible first | exact HB.out | apply below_alloc | apply pw_below_drewN | apply below_drew1 | refine below_set ?_ GE191.out) | exact HB.out)⟩
        · replace c16 := Bool.eq_false_iff.mpr c16
          subst c16
          have H1 : (some false) = some r := by rw [if_neg (show ¬ (false = true) by decide)] at H; exact H
          clear H
          have H := H1
          clear H1
          obtain rfl := Option.some.inj H
          go_enter Tryd.func43, Tryd.ntmps43
          go_wp2_with (first | ((with_reducible refine gate_dst (N := 1) rfl ?_); refine box_event ?hg (N := 1) ?hd (cs := #[.int .i64 a0_0, .int .i64 a0_1, .int .i64 a0_2, .int .i64 a0_3, .int .i64 a0_4, .string a0_5]) (t := 27) ?hr ?_; (case hd => rfl); (case hg => rfl); (case hr => first | (go_simp; done) | (go_simp; rfl)); intro gb191 hg w20 hbox hb; have n0_ := Aside0.mk (below_step (by repeat (first | (with_reducible first | exact HB.out | apply below_alloc | apply pw_below_drewN | apply below_drew1) | exact HB.out)) hb); have n1_ := Aside0.mk (hbox); have n2_ := Aside0.mk ((by rw [hg]; exact (below_size (by repeat (first | (with_reducible first | exact HB.out | apply below_alloc | apply pw_below_drewN | apply below_drew1) | exact HB.out))) : w.heap.size ≤ gb191)); have n3_ := Aside0.mk ((by rw [hg]; exact (below_size (by repeat (first | (with_reducible first | exact HB.out | apply below_alloc | apply pw_below_drewN | apply below_drew1) | exact HB.out))) : w.heap.size ≤ gb191)); clear HB; have HB := n0_; have BK191 := n1_; have GW191 := n2_; have GE191 := n3_; clear n0_ n1_ n2_ n3_; clear hb hbox hg; have hcz21_0 : w20.cell? ⟨gb191, 0, none⟩ = some (.int .i64 a0_0) := (blk_cell BK191.out 0).trans rfl; have hcz21_1 : w20.cell? ⟨gb191, 1, none⟩ = some (.int .i64 a0_1) := (blk_cell BK191.out 1).trans rfl; have hcz21_2 : w20.cell? ⟨gb191, 2, none⟩ = some (.int .i64 a0_2) := (blk_cell BK191.out 2).trans rfl; have hcz21_3 : w20.cell? ⟨gb191, 3, none⟩ = some (.int .i64 a0_3) := (blk_cell BK191.out 3).trans rfl; have hcz21_4 : w20.cell? ⟨gb191, 4, none⟩ = some (.int .i64 a0_4) := (blk_cell BK191.out 4).trans rfl; have hcz21_5 : w20.cell? ⟨gb191, 5, none⟩ = some (.string a0_5) := (blk_cell BK191.out 5).trans rfl; have hfz21_0 := blk_frozen BK191.out 0; have hfz21_1 := blk_frozen BK191.out 1; have hfz21_2 := blk_frozen BK191.out 2; have hfz21_3 := blk_frozen BK191.out 3; have hfz21_4 := blk_frozen BK191.out 4; have hfz21_5 := blk_frozen BK191.out 5) | (go_at_call 44; (with_reducible refine (impl_isReg.calls a0_1 false _ A15.out).mono ?_); rintro e w' ⟨rfl, ⟨nd, rfl⟩⟩))
          go_ret
          exact ⟨by first | rfl | (simp [errW_none, errW_some] <;> rfl) | (simp [*, errW_none, errW_some] <;> rfl), by repeat (first | (with_reducible first | exact HB.out | apply below_alloc | apply pw_below_drewN | apply below_drew1 | refine below_set ?_ GE191.out) | exact HB.out)⟩
      · rw [if_neg c14] at H
        have c14b0 : (a0_3 == 0 && (a0_4 == 0 && (a0_5.toList == ([] : List UInt8)))) = false := by simpa using c14
        have c14b0e : (a0_3 == 0 && (a0_4 == 0 && a0_5.toList.isEmpty)) = false := by rw [show a0_5.toList.isEmpty = (a0_5.toList == ([] : List UInt8)) from by cases a0_5.toList <;> rfl]; exact c14b0
        (try (have c14b1 : decide (a0_3 = 0 && (a0_4 == 0 && (a0_5.toList == ([] : List UInt8)))) = false := by simpa using c14))
        (try (have c14b2 : (a0_3 == 0 && (a0_4 == 0 && (a0_5.toList == ([] : List UInt8)))) = false := by simpa using c14))
        (try (have c14b3 : ¬ (a0_3 = 0 && (a0_4 == 0 && (a0_5.toList == ([] : List UInt8)))) := by simpa using c14))
        clear c14
        obtain rfl := Option.some.inj H
        go_enter Tryd.func43, Tryd.ntmps43
        go_wp2_with (first | ((with_reducible refine gate_dst (N := 1) rfl ?_); refine box_event ?hg (N := 1) ?hd (cs := #[.int .i64 a0_0, .int .i64 a0_1, .int .i64 a0_2, .int .i64 a0_3, .int .i64 a0_4, .string a0_5]) (t := 27) ?hr ?_; (case hd => rfl); (case hg => rfl); (case hr => first | (go_simp; done) | (go_simp; rfl)); intro gb191 hg w22 hbox hb; have n0_ := Aside0.mk (below_step (by repeat (first | (with_reducible first | exact HB.out | apply below_alloc | apply pw_below_drewN | apply below_drew1) | exact HB.out)) hb); have n1_ := Aside0.mk (hbox); have n2_ := Aside0.mk ((by rw [hg]; exact (below_size (by repeat (first | (with_reducible first | exact HB.out | apply below_alloc | apply pw_below_drewN | apply below_drew1) | exact HB.out))) : w.heap.size ≤ gb191)); have n3_ := Aside0.mk ((by rw [hg]; exact (below_size (by repeat (first | (with_reducible first | exact HB.out | apply below_alloc | apply pw_below_drewN | apply below_drew1) | exact HB.out))) : w.heap.size ≤ gb191)); clear HB; have HB := n0_; have BK191 := n1_; have GW191 := n2_; have GE191 := n3_; clear n0_ n1_ n2_ n3_; clear hb hbox hg; have hcz23_0 : w22.cell? ⟨gb191, 0, none⟩ = some (.int .i64 a0_0) := (blk_cell BK191.out 0).trans rfl; have hcz23_1 : w22.cell? ⟨gb191, 1, none⟩ = some (.int .i64 a0_1) := (blk_cell BK191.out 1).trans rfl; have hcz23_2 : w22.cell? ⟨gb191, 2, none⟩ = some (.int .i64 a0_2) := (blk_cell BK191.out 2).trans rfl; have hcz23_3 : w22.cell? ⟨gb191, 3, none⟩ = some (.int .i64 a0_3) := (blk_cell BK191.out 3).trans rfl; have hcz23_4 : w22.cell? ⟨gb191, 4, none⟩ = some (.int .i64 a0_4) := (blk_cell BK191.out 4).trans rfl; have hcz23_5 : w22.cell? ⟨gb191, 5, none⟩ = some (.string a0_5) := (blk_cell BK191.out 5).trans rfl; have hfz23_0 := blk_frozen BK191.out 0; have hfz23_1 := blk_frozen BK191.out 1; have hfz23_2 := blk_frozen BK191.out 2; have hfz23_3 := blk_frozen BK191.out 3; have hfz23_4 := blk_frozen BK191.out 4; have hfz23_5 := blk_frozen BK191.out 5))
        go_ret
        exact ⟨by first | rfl | (simp [errW_none, errW_some] <;> rfl) | (simp [*, errW_none, errW_some] <;> rfl), by repeat (first | (with_reducible first | exact HB.out | apply below_alloc | apply pw_below_drewN | apply below_drew1 | refine below_set ?_ GE191.out) | exact HB.out)⟩
    · rw [if_neg c13] at H
      have c13b0 : (a0_0 == 2) = false := beq_eq_false_iff_ne.mpr c13
      have c13b1 : (a0_0 != 2) = true := bne_iff_ne.mpr c13
      by_cases c24 : a0_0 = 3
      · rw [if_pos c24] at H
        have c24b0 : (a0_0 == 3) = true := beq_iff_eq.mpr c24
        have c24b1 : (a0_0 != 3) = false := bne_eq_false_iff_eq.mpr c24
        clear c24
        by_cases c25 : (a0_3 == 0 && (a0_4 == 0 && (a0_5.toList == ([] : List UInt8)))) = true
        · rw [if_pos c25] at H
          have c25b0 : (a0_3 == 0 && (a0_4 == 0 && (a0_5.toList == ([] : List UInt8)))) = true := c25
          have c25b0e : (a0_3 == 0 && (a0_4 == 0 && a0_5.toList.isEmpty)) = true := by rw [show a0_5.toList.isEmpty = (a0_5.toList == ([] : List UInt8)) from by cases a0_5.toList <;> rfl]; exact c25b0
          (try (have c25b1 : decide (a0_3 = 0 && (a0_4 == 0 && (a0_5.toList == ([] : List UInt8)))) = true := by simpa using c25))
          (try (have c25b2 : (a0_3 == 0 && (a0_4 == 0 && (a0_5.toList == ([] : List UInt8)))) = true := by simpa using c25))
          clear c25
          replace H := Option.bind_eq_some_iff.mp H
          obtain ⟨t196, A260, H⟩ := H
          replace H : (if t196 = true then ((impl_in.f a0_2 0 2).bind fun t197 => (some t197)) else (some false)) = some r := H
          have A26 := Aside0.mk A260
          clear A260
          by_cases c27 : t196 = true
          · subst c27
            have H1 : ((impl_in.f a0_2 0 2).bind fun t197 => (some t197)) = some r := by rw [if_pos rfl] at H; exact H
            clear H
            have H := H1
            clear H1
            replace H := Option.bind_eq_some_iff.mp H
            obtain ⟨t197, A280, H⟩ := H
            replace H : (some t197) = some r := H
            have A28 := Aside0.mk A280
            clear A280
            obtain rfl := Option.some.inj H
            go_enter Tryd.func43, Tryd.ntmps43
            go_wp2_with (first | ((with_reducible refine gate_dst (N := 1) rfl ?_); refine box_event ?hg (N := 1) ?hd (cs := #[.int .i64 a0_0, .int .i64 a0_1, .int .i64 a0_2, .int .i64 a0_3, .int .i64 a0_4, .string a0_5]) (t := 27) ?hr ?_; (case hd => rfl); (case hg => rfl); (case hr => first | (go_simp; done) | (go_simp; rfl)); intro gb191 hg w29 hbox hb; have n0_ := Aside0.mk (below_step (by repeat (first | (with_reducible first | exact HB.out | apply below_alloc | apply pw_below_drewN | apply below_drew1) | exact HB.out)) hb); have n1_ := Aside0.mk (hbox); have n2_ := Aside0.mk ((by rw [hg]; exact (below_size (by repeat (first | (with_reducible first | exact HB.out | apply below_alloc | apply pw_below_drewN | apply below_drew1) | exact HB.out))) : w.heap.size ≤ gb191)); have n3_ := Aside0.mk ((by rw [hg]; exact (below_size (by repeat (first | (with_reducible first | exact HB.out | apply below_alloc | apply pw_below_drewN | apply below_drew1) | exact HB.out))) : w.heap.size ≤ gb191)); clear HB; have HB := n0_; have BK191 := n1_; have GW191 := n2_; have GE191 := n3_; clear n0_ n1_ n2_ n3_; clear hb hbox hg; have hcz30_0 : w29.cell? ⟨gb191, 0, none⟩ = some (.int .i64 a0_0) := (blk_cell BK191.out 0).trans rfl; have hcz30_1 : w29.cell? ⟨gb191, 1, none⟩ = some (.int .i64 a0_1) := (blk_cell BK191.out 1).trans rfl; have hcz30_2 : w29.cell? ⟨gb191, 2, none⟩ = some (.int .i64 a0_2) := (blk_cell BK191.out 2).trans rfl; have hcz30_3 : w29.cell? ⟨gb191, 3, none⟩ = some (.int .i64 a0_3) := (blk_cell BK191.out 3).trans rfl; have hcz30_4 : w29.cell? ⟨gb191, 4, none⟩ = some (.int .i64 a0_4) := (blk_cell BK191.out 4).trans rfl; have hcz30_5 : w29.cell? ⟨gb191, 5, none⟩ = some (.string a0_5) := (blk_cell BK191.out 5).trans rfl; have hfz30_0 := blk_frozen BK191.out 0; have hfz30_1 := blk_frozen BK191.out 1; have hfz30_2 := blk_frozen BK191.out 2; have hfz30_3 := blk_frozen BK191.out 3; have hfz30_4 := blk_frozen BK191.out 4; have hfz30_5 := blk_frozen BK191.out 5) | (go_at_call 44; (with_reducible refine (impl_isReg.calls a0_1 true _ A26.out).mono ?_); rintro e w' ⟨rfl, ⟨nd, rfl⟩⟩) | (go_at_call 39; (with_reducible refine (impl_in.calls a0_2 0 2 t197 _ A28.out).mono ?_); rintro e w' ⟨rfl, ⟨nd, rfl⟩⟩))
            go_ret
            exact ⟨by first | rfl | (simp [errW_none, errW_some] <;> rfl) | (simp [*, errW_none, errW_some] <;> rfl), by repeat (first | (with_reducible first | exact HB.out | apply below_alloc | apply pw_below_drewN | apply below_drew1 | refine below_set ?_ GE191.out) | exact HB.out)⟩
          · replace c27 := Bool.eq_false_iff.mpr c27
            subst c27
            have H1 : (some false) = some r := by rw [if_neg (show ¬ (false = true) by decide)] at H; exact H
            clear H
            have H := H1
            clear H1
            obtain rfl := Option.some.inj H
            go_enter Tryd.func43, Tryd.ntmps43
            go_wp2_with (first | ((with_reducible refine gate_dst (N := 1) rfl ?_); refine box_event ?hg (N := 1) ?hd (cs := #[.int .i64 a0_0, .int .i64 a0_1, .int .i64 a0_2, .int .i64 a0_3, .int .i64 a0_4, .string a0_5]) (t := 27) ?hr ?_; (case hd => rfl); (case hg => rfl); (case hr => first | (go_simp; done) | (go_simp; rfl)); intro gb191 hg w31 hbox hb; have n0_ := Aside0.mk (below_step (by repeat (first | (with_reducible first | exact HB.out | apply below_alloc | apply pw_below_drewN | apply below_drew1) | exact HB.out)) hb); have n1_ := Aside0.mk (hbox); have n2_ := Aside0.mk ((by rw [hg]; exact (below_size (by repeat (first | (with_reducible first | exact HB.out | apply below_alloc | apply pw_below_drewN | apply below_drew1) | exact HB.out))) : w.heap.size ≤ gb191)); have n3_ := Aside0.mk ((by rw [hg]; exact (below_size (by repeat (first | (with_reducible first | exact HB.out | apply below_alloc | apply pw_below_drewN | apply below_drew1) | exact HB.out))) : w.heap.size ≤ gb191)); clear HB; have HB := n0_; have BK191 := n1_; have GW191 := n2_; have GE191 := n3_; clear n0_ n1_ n2_ n3_; clear hb hbox hg; have hcz32_0 : w31.cell? ⟨gb191, 0, none⟩ = some (.int .i64 a0_0) := (blk_cell BK191.out 0).trans rfl; have hcz32_1 : w31.cell? ⟨gb191, 1, none⟩ = some (.int .i64 a0_1) := (blk_cell BK191.out 1).trans rfl; have hcz32_2 : w31.cell? ⟨gb191, 2, none⟩ = some (.int .i64 a0_2) := (blk_cell BK191.out 2).trans rfl; have hcz32_3 : w31.cell? ⟨gb191, 3, none⟩ = some (.int .i64 a0_3) := (blk_cell BK191.out 3).trans rfl; have hcz32_4 : w31.cell? ⟨gb191, 4, none⟩ = some (.int .i64 a0_4) := (blk_cell BK191.out 4).trans rfl; have hcz32_5 : w31.cell? ⟨gb191, 5, none⟩ = some (.string a0_5) := (blk_cell BK191.out 5).trans rfl; have hfz32_0 := blk_frozen BK191.out 0; have hfz32_1 := blk_frozen BK191.out 1; have hfz32_2 := blk_frozen BK191.out 2; have hfz32_3 := blk_frozen BK191.out 3; have hfz32_4 := blk_frozen BK191.out 4; have hfz32_5 := blk_frozen BK191.out 5) | (go_at_call 44; (with_reducible refine (impl_isReg.calls a0_1 false _ A26.out).mono ?_); rintro e w' ⟨rfl, ⟨nd, rfl⟩⟩))
            go_ret
            exact ⟨by first | rfl | (simp [errW_none, errW_some] <;> rfl) | (simp [*, errW_none, errW_some] <;> rfl), by repeat (first | (with_reducible first | exact HB.out | apply below_alloc | apply pw_below_drewN | apply below_drew1 | refine below_set ?_ GE191.out) | exact HB.out)⟩
        · rw [if_neg c25] at H
          have c25b0 : (a0_3 == 0 && (a0_4 == 0 && (a0_5.toList == ([] : List UInt8)))) = false := by simpa using c25
          have c25b0e : (a0_3 == 0 && (a0_4 == 0 && a0_5.toList.isEmpty)) = false := by rw [show a0_5.toList.isEmpty = (a0_5.toList == ([] : List UInt8)) from by cases a0_5.toList <;> rfl]; exact c25b0
          (try (have c25b1 : decide (a0_3 = 0 && (a0_4 == 0 && (a0_5.toList == ([] : List UInt8)))) = false := by simpa using c25))
          (try (have c25b2 : (a0_3 == 0 && (a0_4 == 0 && (a0_5.toList == ([] : List UInt8)))) = false := by simpa using c25))
          (try (have c25b3 : ¬ (a0_3 = 0 && (a0_4 == 0 && (a0_5.toList == ([] : List UInt8)))) := by simpa using c25))
          clear c25
          obtain rfl := Option.some.inj H
          go_enter Tryd.func43, Tryd.ntmps43
          go_wp2_with (first | ((with_reducible refine gate_dst (N := 1) rfl ?_); refine box_event ?hg (N := 1) ?hd (cs := #[.int .i64 a0_0, .int .i64 a0_1, .int .i64 a0_2, .int .i64 a0_3, .int .i64 a0_4, .string a0_5]) (t := 27) ?hr ?_; (case hd => rfl); (case hg => rfl); (case hr => first | (go_simp; done) | (go_simp; rfl)); intro gb191 hg w33 hbox hb; have n0_ := Aside0.mk (below_step (by repeat (first | (with_reducible first | exact HB.out | apply below_alloc | apply pw_below_drewN | apply below_drew1) | exact HB.out)) hb); have n1_ := Aside0.mk (hbox); have n2_ := Aside0.mk ((by rw [hg]; exact (below_size (by repeat (first | (with_reducible first | exact HB.out | apply below_alloc | apply pw_below_drewN | apply below_drew1) | exact HB.out))) : w.heap.size ≤ gb191)); have n3_ := Aside0.mk ((by rw [hg]; exact (below_size (by repeat (first | (with_reducible first | exact HB.out | apply below_alloc | apply pw_below_drewN | apply below_drew1) | exact HB.out))) : w.heap.size ≤ gb191)); clear HB; have HB := n0_; have BK191 := n1_; have GW191 := n2_; have GE191 := n3_; clear n0_ n1_ n2_ n3_; clear hb hbox hg; have hcz34_0 : w33.cell? ⟨gb191, 0, none⟩ = some (.int .i64 a0_0) := (blk_cell BK191.out 0).trans rfl; have hcz34_1 : w33.cell? ⟨gb191, 1, none⟩ = some (.int .i64 a0_1) := (blk_cell BK191.out 1).trans rfl; have hcz34_2 : w33.cell? ⟨gb191, 2, none⟩ = some (.int .i64 a0_2) := (blk_cell BK191.out 2).trans rfl; have hcz34_3 : w33.cell? ⟨gb191, 3, none⟩ = some (.int .i64 a0_3) := (blk_cell BK191.out 3).trans rfl; have hcz34_4 : w33.cell? ⟨gb191, 4, none⟩ = some (.int .i64 a0_4) := (blk_cell BK191.out 4).trans rfl; have hcz34_5 : w33.cell? ⟨gb191, 5, none⟩ = some (.string a0_5) := (blk_cell BK191.out 5).trans rfl; have hfz34_0 := blk_frozen BK191.out 0; have hfz34_1 := blk_frozen BK191.out 1; have hfz34_2 := blk_frozen BK191.out 2; have hfz34_3 := blk_frozen BK191.out 3; have hfz34_4 := blk_frozen BK191.out 4; have hfz34_5 := blk_frozen BK191.out 5))
          go_ret
          exact ⟨by first | rfl | (simp [errW_none, errW_some] <;> rfl) | (simp [*, errW_none, errW_some] <;> rfl), by repeat (first | (with_reducible first | exact HB.out | apply below_alloc | apply pw_below_drewN | apply below_drew1 | refine below_set ?_ GE191.out) | exact HB.out)⟩
      · rw [if_neg c24] at H
        have c24b0 : (a0_0 == 3) = false := beq_eq_false_iff_ne.mpr c24
        have c24b1 : (a0_0 != 3) = true := bne_iff_ne.mpr c24
        have HC35 := Aside0.mk H
        clear H
        go_enter Tryd.func43, Tryd.ntmps43
        go_upto_if 68 with (first | ((with_reducible refine gate_dst (N := 1) rfl ?_); refine box_event ?hg (N := 1) ?hd (cs := #[.int .i64 a0_0, .int .i64 a0_1, .int .i64 a0_2, .int .i64 a0_3, .int .i64 a0_4, .string a0_5]) (t := 27) ?hr ?_; (case hd => rfl); (case hg => rfl); (case hr => first | (go_simp; done) | (go_simp; rfl)); intro gb191 hg w36 hbox hb; have n0_ := Aside0.mk (below_step (by repeat (first | (with_reducible first | exact HB.out | apply below_alloc | apply pw_below_drewN | apply below_drew1) | exact HB.out)) hb); have n1_ := Aside0.mk (hbox); have n2_ := Aside0.mk ((by rw [hg]; exact (below_size (by repeat (first | (with_reducible first | exact HB.out | apply below_alloc | apply pw_below_drewN | apply below_drew1) | exact HB.out))) : w.heap.size ≤ gb191)); have n3_ := Aside0.mk ((by rw [hg]; exact (below_size (by repeat (first | (with_reducible first | exact HB.out | apply below_alloc | apply pw_below_drewN | apply below_drew1) | exact HB.out))) : w.heap.size ≤ gb191)); clear HB; have HB := n0_; have BK191 := n1_; have GW191 := n2_; have GE191 := n3_; clear n0_ n1_ n2_ n3_; clear hb hbox hg; have hcz37_0 : w36.cell? ⟨gb191, 0, none⟩ = some (.int .i64 a0_0) := (blk_cell BK191.out 0).trans rfl; have hcz37_1 : w36.cell? ⟨gb191, 1, none⟩ = some (.int .i64 a0_1) := (blk_cell BK191.out 1).trans rfl; have hcz37_2 : w36.cell? ⟨gb191, 2, none⟩ = some (.int .i64 a0_2) := (blk_cell BK191.out 2).trans rfl; have hcz37_3 : w36.cell? ⟨gb191, 3, none⟩ = some (.int .i64 a0_3) := (blk_cell BK191.out 3).trans rfl; have hcz37_4 : w36.cell? ⟨gb191, 4, none⟩ = some (.int .i64 a0_4) := (blk_cell BK191.out 4).trans rfl; have hcz37_5 : w36.cell? ⟨gb191, 5, none⟩ = some (.string a0_5) := (blk_cell BK191.out 5).trans rfl; have hfz37_0 := blk_frozen BK191.out 0; have hfz37_1 := blk_frozen BK191.out 1; have hfz37_2 := blk_frozen BK191.out 2; have hfz37_3 := blk_frozen BK191.out 3; have hfz37_4 := blk_frozen BK191.out 4; have hfz37_5 := blk_frozen BK191.out 5))
        (try simp only [Act.put, List.setIfInBounds_toArray, List.set_cons_zero, List.set_cons_succ])
        go_cut [68] (fun v68 wc => ∃ (kq : Nat) (x68_34 : Bool), v68 = .bool x68_34 ∧ Aside0 (impl_isInstr.j0 kq a0_0 x68_34 a0_0 a0_1 a0_2 a0_3 a0_4 a0_5 = some r) ∧ Aside0 (kq ≤ k) ∧ Aside0 (wc.heap[gb191]? = some (.cells #[.int .i64 a0_0, .int .i64 a0_1, .int .i64 a0_2, .int .i64 a0_3, .int .i64 a0_4, .string a0_5] 27 (0, 0))) ∧ Aside0 (Below w.heap.size w wc))
        case first =>
          have H := HC35.out
          clear HC35
          by_cases c38 : a0_0 = 4
          · rw [if_pos c38] at H
            have c38b0 : (a0_0 == 4) = true := beq_iff_eq.mpr c38
            have c38b1 : (a0_0 != 4) = false := bne_eq_false_iff_eq.mpr c38
            clear c38
            (first | rw [c38b0] | (simp only [i64_w, i32_w]; rw [c38b0]) | skip)
            have H' := Aside0.mk H
            clear H
            go_wp2
            go_meet
            case rel => exact ⟨_, ((a0_0 == 4)), (by first | rfl | (simp; done) | (simp [*]; done)), H', ⟨by first | omega | exact Nat.le_refl _⟩, ⟨by (with_reducible repeat (first | refine blk_drewN ?_ _ | refine blk_drew ?_ | refine blk_alloc ?_ _)); exact BK191.out⟩, ⟨by repeat (first | (with_reducible first | exact HB.out | apply below_alloc | apply pw_below_drewN | apply below_drew1 | refine below_set ?_ GE191.out) | exact HB.out)⟩⟩
          · rw [if_neg c38] at H
            have c38b0 : (a0_0 == 4) = false := beq_eq_false_iff_ne.mpr c38
            have c38b1 : (a0_0 != 4) = true := bne_iff_ne.mpr c38
            (first | rw [c38b0] | (simp only [i64_w, i32_w]; rw [c38b0]) | skip)
            have H' := Aside0.mk H
            clear H
            go_wp2
            go_meet
            case rel => exact ⟨_, ((a0_0 == 10)), (by first | rfl | (simp; done) | (simp [*]; done)), H', ⟨by first | omega | exact Nat.le_refl _⟩, ⟨by (with_reducible repeat (first | refine blk_drewN ?_ _ | refine blk_drew ?_ | refine blk_alloc ?_ _)); exact BK191.out⟩, ⟨by repeat (first | (with_reducible first | exact HB.out | apply below_alloc | apply pw_below_drewN | apply below_drew1 | refine below_set ?_ GE191.out) | exact HB.out)⟩⟩
        case rest =>
          clear HC35
          try clear c1
          try clear c2
          try clear c2b0
          try clear c2b1
          try clear p2
          try clear c3
          try clear c3b0
          try clear c3b1
          try clear c3b2
          try clear c4
          try clear c5
          try clear c13
          try clear c13b0
          try clear c13b1
          try clear c14
          try clear c14b0
          try clear c14b1
          try clear c14b2
          try clear c16
          try clear c24
          try clear c24b0
          try clear c24b1
          try clear c25
          try clear c25b0
          try clear c25b1
          try clear c25b2
          try clear c27
          try clear c38
          try clear c38b0
          try clear c38b1
          try clear hcz10_0
          try clear hcz10_1
          try clear hcz10_2
          try clear hcz10_3
          try clear hcz10_4
          try clear hcz10_5
          try clear hcz12_0
          try clear hcz12_1
          try clear hcz12_2
          try clear hcz12_3
          try clear hcz12_4
          try clear hcz12_5
          try clear hcz19_0
          try clear hcz19_1
          try clear hcz19_2
          try clear hcz19_3
          try clear hcz19_4
          try clear hcz19_5
          try clear hcz21_0
          try clear hcz21_1
          try clear hcz21_2
          try clear hcz21_3
          try clear hcz21_4
          try clear hcz21_5
          try clear hcz23_0
          try clear hcz23_1
          try clear hcz23_2
          try clear hcz23_3
          try clear hcz23_4
          try clear hcz23_5
          try clear hcz30_0
          try clear hcz30_1
          try clear hcz30_2
          try clear hcz30_3
          try clear hcz30_4
          try clear hcz30_5
          try clear hcz32_0
          try clear hcz32_1
          try clear hcz32_2
          try clear hcz32_3
          try clear hcz32_4
          try clear hcz32_5
          try clear hcz34_0
          try clear hcz34_1
          try clear hcz34_2
          try clear hcz34_3
          try clear hcz34_4
          try clear hcz34_5
          try clear hcz37_0
          try clear hcz37_1
          try clear hcz37_2
          try clear hcz37_3
          try clear hcz37_4
          try clear hcz37_5
          try clear hcz8_0
          try clear hcz8_1
          try clear hcz8_2
          try clear hcz8_3
          try clear hcz8_4
          try clear hcz8_5
          try clear hfz10_0
          try clear hfz10_1
          try clear hfz10_2
          try clear hfz10_3
          try clear hfz10_4
          try clear hfz10_5
          try clear hfz12_0
          try clear hfz12_1
          try clear hfz12_2
          try clear hfz12_3
          try clear hfz12_4
          try clear hfz12_5
          try clear hfz19_0
          try clear hfz19_1
          try clear hfz19_2
          try clear hfz19_3
          try clear hfz19_4
          try clear hfz19_5
          try clear hfz21_0
          try clear hfz21_1
          try clear hfz21_2
          try clear hfz21_3
          try clear hfz21_4
          try clear hfz21_5
          try clear hfz23_0
          try clear hfz23_1
          try clear hfz23_2
          try clear hfz23_3
          try clear hfz23_4
          try clear hfz23_5
          try clear hfz30_0
          try clear hfz30_1
          try clear hfz30_2
          try clear hfz30_3
          try clear hfz30_4
          try clear hfz30_5
          try clear hfz32_0
          try clear hfz32_1
          try clear hfz32_2
          try clear hfz32_3
          try clear hfz32_4
          try clear hfz32_5
          try clear hfz34_0
          try clear hfz34_1
          try clear hfz34_2
          try clear hfz34_3
          try clear hfz34_4
          try clear hfz34_5
          try clear hfz37_0
          try clear hfz37_1
          try clear hfz37_2
          try clear hfz37_3
          try clear hfz37_4
          try clear hfz37_5
          try clear hfz8_0
          try clear hfz8_1
          try clear hfz8_2
          try clear hfz8_3
          try clear hfz8_4
          try clear hfz8_5
          obtain ⟨kq, x68_34, rfl, HA, HJ34, BK191, HB⟩ := hcut
          cases kq with
          | zero => exact absurd HA.out (by simp [impl_isInstr.j0])
          | succ kj34 =>
            have H := HA.out
            clear HA
            simp only [impl_isInstr.j0] at H
            by_cases c39 : x68_34 = true
            · subst c39
              have H1 : (if (a0_2 == 0 && (a0_3 == 0 && (a0_4 == 0 && (a0_5.toList == ([] : List UInt8))))) = true then ((impl_isReg.f a0_1).bind fun t198 => (some t198)) else (some false)) = some r := by rw [if_pos rfl] at H; exact H
              clear H
              have H := H1
              clear H1
              by_cases c40 : (a0_2 == 0 && (a0_3 == 0 && (a0_4 == 0 && (a0_5.toList == ([] : List UInt8))))) = true
              · rw [if_pos c40] at H
                have c40b0 : (a0_2 == 0 && (a0_3 == 0 && (a0_4 == 0 && (a0_5.toList == ([] : List UInt8))))) = true := c40
                have c40b0e : (a0_2 == 0 && (a0_3 == 0 && (a0_4 == 0 && a0_5.toList.isEmpty))) = true := by rw [show a0_5.toList.isEmpty = (a0_5.toList == ([] : List UInt8)) from by cases a0_5.toList <;> rfl]; exact c40b0
                (try (have c40b1 : decide (a0_2 = 0 && (a0_3 == 0 && (a0_4 == 0 && (a0_5.toList == ([] : List UInt8))))) = true := by simpa using c40))
                (try (have c40b2 : (a0_2 == 0 && (a0_3 == 0 && (a0_4 == 0 && (a0_5.toList == ([] : List UInt8))))) = true := by simpa using c40))
                clear c40
                replace H := Option.bind_eq_some_iff.mp H
                obtain ⟨t198, A410, H⟩ := H
                replace H : (some t198) = some r := H
                have A41 := Aside0.mk A410
                clear A410
                obtain rfl := Option.some.inj H
                have hcz42_0 : wc.cell? ⟨gb191, 0, none⟩ = some (.int .i64 a0_0) := (blk_cell BK191.out 0).trans rfl
                have hcz42_1 : wc.cell? ⟨gb191, 1, none⟩ = some (.int .i64 a0_1) := (blk_cell BK191.out 1).trans rfl
                have hcz42_2 : wc.cell? ⟨gb191, 2, none⟩ = some (.int .i64 a0_2) := (blk_cell BK191.out 2).trans rfl
                have hcz42_3 : wc.cell? ⟨gb191, 3, none⟩ = some (.int .i64 a0_3) := (blk_cell BK191.out 3).trans rfl
                have hcz42_4 : wc.cell? ⟨gb191, 4, none⟩ = some (.int .i64 a0_4) := (blk_cell BK191.out 4).trans rfl
                have hcz42_5 : wc.cell? ⟨gb191, 5, none⟩ = some (.string a0_5) := (blk_cell BK191.out 5).trans rfl
                have hfz42_0 := blk_frozen BK191.out 0
                have hfz42_1 := blk_frozen BK191.out 1
                have hfz42_2 := blk_frozen BK191.out 2
                have hfz42_3 := blk_frozen BK191.out 3
                have hfz42_4 := blk_frozen BK191.out 4
                have hfz42_5 := blk_frozen BK191.out 5
                go_wp2_with (first | (go_at_call 44; (with_reducible refine (impl_isReg.calls a0_1 t198 _ A41.out).mono ?_); rintro e w' ⟨rfl, ⟨nd, rfl⟩⟩))
                go_ret
                exact ⟨by first | rfl | (simp [errW_none, errW_some] <;> rfl) | (simp [*, errW_none, errW_some] <;> rfl), by repeat (first | (with_reducible first | exact HB.out | apply below_alloc | apply pw_below_drewN | apply below_drew1 | refine below_set ?_ GE191.out) | exact HB.out)⟩
              · rw [if_neg c40] at H
                have c40b0 : (a0_2 == 0 && (a0_3 == 0 && (a0_4 == 0 && (a0_5.toList == ([] : List UInt8))))) = false := by simpa using c40
                have c40b0e : (a0_2 == 0 && (a0_3 == 0 && (a0_4 == 0 && a0_5.toList.isEmpty))) = false := by rw [show a0_5.toList.isEmpty = (a0_5.toList == ([] : List UInt8)) from by cases a0_5.toList <;> rfl]; exact c40b0
                (try (have c40b1 : decide (a0_2 = 0 && (a0_3 == 0 && (a0_4 == 0 && (a0_5.toList == ([] : List UInt8))))) = false := by simpa using c40))
                (try (have c40b2 : (a0_2 == 0 && (a0_3 == 0 && (a0_4 == 0 && (a0_5.toList == ([] : List UInt8))))) = false := by simpa using c40))
                (try (have c40b3 : ¬ (a0_2 = 0 && (a0_3 == 0 && (a0_4 == 0 && (a0_5.toList == ([] : List UInt8))))) := by simpa using c40))
                clear c40
                obtain rfl := Option.some.inj H
                have hcz43_0 : wc.cell? ⟨gb191, 0, none⟩ = some (.int .i64 a0_0) := (blk_cell BK191.out 0).trans rfl
                have hcz43_1 : wc.cell? ⟨gb191, 1, none⟩ = some (.int .i64 a0_1) := (blk_cell BK191.out 1).trans rfl
                have hcz43_2 : wc.cell? ⟨gb191, 2, none⟩ = some (.int .i64 a0_2) := (blk_cell BK191.out 2).trans rfl
                have hcz43_3 : wc.cell? ⟨gb191, 3, none⟩ = some (.int .i64 a0_3) := (blk_cell BK191.out 3).trans rfl
                have hcz43_4 : wc.cell? ⟨gb191, 4, none⟩ = some (.int .i64 a0_4) := (blk_cell BK191.out 4).trans rfl
                have hcz43_5 : wc.cell? ⟨gb191, 5, none⟩ = some (.string a0_5) := (blk_cell BK191.out 5).trans rfl
                have hfz43_0 := blk_frozen BK191.out 0
                have hfz43_1 := blk_frozen BK191.out 1
                have hfz43_2 := blk_frozen BK191.out 2
                have hfz43_3 := blk_frozen BK191.out 3
                have hfz43_4 := blk_frozen BK191.out 4
                have hfz43_5 := blk_frozen BK191.out 5
                go_wp2
                go_ret
                exact ⟨by first | rfl | (simp [errW_none, errW_some] <;> rfl) | (simp [*, errW_none, errW_some] <;> rfl), by repeat (first | (with_reducible first | exact HB.out | apply below_alloc | apply pw_below_drewN | apply below_drew1 | refine below_set ?_ GE191.out) | exact HB.out)⟩
            · replace c39 := Bool.eq_false_iff.mpr c39
              subst c39
              have H1 : (if a0_0 = 5 then (if (a0_4 == 0 && (a0_5.toList == ([] : List UInt8))) = true then ((impl_isReg.f a0_1).bind fun t199 => (if t199 = true then ((impl_isReg.f a0_2).bind fun t200 => (if t200 = true then ((impl_isReg.f a0_3).bind fun t201 => (some t201)) else (some false))) else (some false))) else (some false)) else (if a0_0 = 6 then ((impl_isReg.f a0_1).bind fun t202 => (if t202 = true then ((impl_isReg.f a0_2).bind fun t203 => (if t203 = true then ((impl_pairOk.f a0_3 a0_4).bind fun t204 => (if t204 = true then ((impl_isName.f kj34 a0_5).bind fun t205 => (some t205)) else (some false))) else (some false))) else (some false))) else (if a0_0 = 7 then ((impl_isReg.f a0_1).bind fun t206 => (if t206 = true then (if a0_2 = 0 then ((impl_pairOk.f a0_3 a0_4).bind fun t207 => (if t207 = true then ((impl_isName.f kj34 a0_5).bind fun t208 => (some t208)) else (some false))) else (some false)) else (some false))) else (if a0_0 = 8 then (if (a0_3 == 0 && (a0_4 == 0 && (a0_5.toList == ([] : List UInt8)))) = true then ((impl_in.f a0_1 0 2).bind fun t209 => (if t209 = true then ((impl_isReg.f a0_2).bind fun t210 => (some t210)) else (some false))) else (some false)) else (if a0_0 = 9 then (if (a0_3 == 0 && (a0_4 == 0 && (a0_5.toList == ([] : List UInt8)))) = true then ((impl_isReg.f a0_1).bind fun t211 => (if t211 = true then ((impl_in.f a0_2 1 12).bind fun t212 => (some t212)) else (some false))) else (some false)) else (some false)))))) = some r := by rw [if_neg (show ¬ (false = true) by decide)] at H; exact H
              clear H
              have H := H1
              clear H1
              by_cases c44 : a0_0 = 5
              · rw [if_pos c44] at H
                have c44b0 : (a0_0 == 5) = true := beq_iff_eq.mpr c44
                have c44b1 : (a0_0 != 5) = false := bne_eq_false_iff_eq.mpr c44
                clear c44
                by_cases c45 : (a0_4 == 0 && (a0_5.toList == ([] : List UInt8))) = true
                · rw [if_pos c45] at H
                  have c45b0 : (a0_4 == 0 && (a0_5.toList == ([] : List UInt8))) = true := c45
                  have c45b0e : (a0_4 == 0 && a0_5.toList.isEmpty) = true := by rw [show a0_5.toList.isEmpty = (a0_5.toList == ([] : List UInt8)) from by cases a0_5.toList <;> rfl]; exact c45b0
                  (try (have c45b1 : decide (a0_4 = 0 && (a0_5.toList == ([] : List UInt8))) = true := by simpa using c45))
                  (try (have c45b2 : (a0_4 == 0 && (a0_5.toList == ([] : List UInt8))) = true := by simpa using c45))
                  clear c45
                  replace H := Option.bind_eq_some_iff.mp H
                  obtain ⟨t199, A460, H⟩ := H
                  replace H : (if t199 = true then ((impl_isReg.f a0_2).bind fun t200 => (if t200 = true then ((impl_isReg.f a0_3).bind fun t201 => (some t201)) else (some false))) else (some false)) = some r := H
                  have A46 := Aside0.mk A460
                  clear A460
                  by_cases c47 : t199 = true
                  · subst c47
                    have H1 : ((impl_isReg.f a0_2).bind fun t200 => (if t200 = true then ((impl_isReg.f a0_3).bind fun t201 => (some t201)) else (some false))) = some r := by rw [if_pos rfl] at H; exact H
                    clear H
                    have H := H1
                    clear H1
                    replace H := Option.bind_eq_some_iff.mp H
                    obtain ⟨t200, A480, H⟩ := H
                    replace H : (if t200 = true then ((impl_isReg.f a0_3).bind fun t201 => (some t201)) else (some false)) = some r := H
                    have A48 := Aside0.mk A480
                    clear A480
                    by_cases c49 : t200 = true
                    · subst c49
                      have H1 : ((impl_isReg.f a0_3).bind fun t201 => (some t201)) = some r := by rw [if_pos rfl] at H; exact H
                      clear H
                      have H := H1
                      clear H1
                      replace H := Option.bind_eq_some_iff.mp H
                      obtain ⟨t201, A500, H⟩ := H
                      replace H : (some t201) = some r := H
                      have A50 := Aside0.mk A500
                      clear A500
                      obtain rfl := Option.some.inj H
                      have hcz51_0 : wc.cell? ⟨gb191, 0, none⟩ = some (.int .i64 a0_0) := (blk_cell BK191.out 0).trans rfl
                      have hcz51_1 : wc.cell? ⟨gb191, 1, none⟩ = some (.int .i64 a0_1) := (blk_cell BK191.out 1).trans rfl
                      have hcz51_2 : wc.cell? ⟨gb191, 2, none⟩ = some (.int .i64 a0_2) := (blk_cell BK191.out 2).trans rfl
                      have hcz51_3 : wc.cell? ⟨gb191, 3, none⟩ = some (.int .i64 a0_3) := (blk_cell BK191.out 3).trans rfl
                      have hcz51_4 : wc.cell? ⟨gb191, 4, none⟩ = some (.int .i64 a0_4) := (blk_cell BK191.out 4).trans rfl
                      have hcz51_5 : wc.cell? ⟨gb191, 5, none⟩ = some (.string a0_5) := (blk_cell BK191.out 5).trans rfl
                      have hfz51_0 := blk_frozen BK191.out 0
                      have hfz51_1 := blk_frozen BK191.out 1
                      have hfz51_2 := blk_frozen BK191.out 2
                      have hfz51_3 := blk_frozen BK191.out 3
                      have hfz51_4 := blk_frozen BK191.out 4
                      have hfz51_5 := blk_frozen BK191.out 5
                      go_wp2_with (first | (go_at_call 44; (with_reducible refine (impl_isReg.calls a0_1 true _ A46.out).mono ?_); rintro e w' ⟨rfl, ⟨nd, rfl⟩⟩) | (go_at_call 44; (with_reducible refine (impl_isReg.calls a0_2 true _ A48.out).mono ?_); rintro e w' ⟨rfl, ⟨nd, rfl⟩⟩) | (go_at_call 44; (with_reducible refine (impl_isReg.calls a0_3 t201 _ A50.out).mono ?_); rintro e w' ⟨rfl, ⟨nd, rfl⟩⟩))
                      go_ret
                      exact ⟨by first | rfl | (simp [errW_none, errW_some] <;> rfl) | (simp [*, errW_none, errW_some] <;> rfl), by repeat (first | (with_reducible first | exact HB.out | apply below_alloc | apply pw_below_drewN | apply below_drew1 | refine below_set ?_ GE191.out) | exact HB.out)⟩
                    · replace c49 := Bool.eq_false_iff.mpr c49
                      subst c49
                      have H1 : (some false) = some r := by rw [if_neg (show ¬ (false = true) by decide)] at H; exact H
                      clear H
                      have H := H1
                      clear H1
                      obtain rfl := Option.some.inj H
                      have hcz52_0 : wc.cell? ⟨gb191, 0, none⟩ = some (.int .i64 a0_0) := (blk_cell BK191.out 0).trans rfl
                      have hcz52_1 : wc.cell? ⟨gb191, 1, none⟩ = some (.int .i64 a0_1) := (blk_cell BK191.out 1).trans rfl
                      have hcz52_2 : wc.cell? ⟨gb191, 2, none⟩ = some (.int .i64 a0_2) := (blk_cell BK191.out 2).trans rfl
                      have hcz52_3 : wc.cell? ⟨gb191, 3, none⟩ = some (.int .i64 a0_3) := (blk_cell BK191.out 3).trans rfl
                      have hcz52_4 : wc.cell? ⟨gb191, 4, none⟩ = some (.int .i64 a0_4) := (blk_cell BK191.out 4).trans rfl
                      have hcz52_5 : wc.cell? ⟨gb191, 5, none⟩ = some (.string a0_5) := (blk_cell BK191.out 5).trans rfl
                      have hfz52_0 := blk_frozen BK191.out 0
                      have hfz52_1 := blk_frozen BK191.out 1
                      have hfz52_2 := blk_frozen BK191.out 2
                      have hfz52_3 := blk_frozen BK191.out 3
                      have hfz52_4 := blk_frozen BK191.out 4
                      have hfz52_5 := blk_frozen BK191.out 5
                      go_wp2_with (first | (go_at_call 44; (with_reducible refine (impl_isReg.calls a0_1 true _ A46.out).mono ?_); rintro e w' ⟨rfl, ⟨nd, rfl⟩⟩) | (go_at_call 44; (with_reducible refine (impl_isReg.calls a0_2 false _ A48.out).mono ?_); rintro e w' ⟨rfl, ⟨nd, rfl⟩⟩))
                      go_ret
                      exact ⟨by first | rfl | (simp [errW_none, errW_some] <;> rfl) | (simp [*, errW_none, errW_some] <;> rfl), by repeat (first | (with_reducible first | exact HB.out | apply below_alloc | apply pw_below_drewN | apply below_drew1 | refine below_set ?_ GE191.out) | exact HB.out)⟩
                  · replace c47 := Bool.eq_false_iff.mpr c47
                    subst c47
                    have H1 : (some false) = some r := by rw [if_neg (show ¬ (false = true) by decide)] at H; exact H
                    clear H
                    have H := H1
                    clear H1
                    obtain rfl := Option.some.inj H
                    have hcz53_0 : wc.cell? ⟨gb191, 0, none⟩ = some (.int .i64 a0_0) := (blk_cell BK191.out 0).trans rfl
                    have hcz53_1 : wc.cell? ⟨gb191, 1, none⟩ = some (.int .i64 a0_1) := (blk_cell BK191.out 1).trans rfl
                    have hcz53_2 : wc.cell? ⟨gb191, 2, none⟩ = some (.int .i64 a0_2) := (blk_cell BK191.out 2).trans rfl
                    have hcz53_3 : wc.cell? ⟨gb191, 3, none⟩ = some (.int .i64 a0_3) := (blk_cell BK191.out 3).trans rfl
                    have hcz53_4 : wc.cell? ⟨gb191, 4, none⟩ = some (.int .i64 a0_4) := (blk_cell BK191.out 4).trans rfl
                    have hcz53_5 : wc.cell? ⟨gb191, 5, none⟩ = some (.string a0_5) := (blk_cell BK191.out 5).trans rfl
                    have hfz53_0 := blk_frozen BK191.out 0
                    have hfz53_1 := blk_frozen BK191.out 1
                    have hfz53_2 := blk_frozen BK191.out 2
                    have hfz53_3 := blk_frozen BK191.out 3
                    have hfz53_4 := blk_frozen BK191.out 4
                    have hfz53_5 := blk_frozen BK191.out 5
                    go_wp2_with (first | (go_at_call 44; (with_reducible refine (impl_isReg.calls a0_1 false _ A46.out).mono ?_); rintro e w' ⟨rfl, ⟨nd, rfl⟩⟩))
                    go_ret
                    exact ⟨by first | rfl | (simp [errW_none, errW_some] <;> rfl) | (simp [*, errW_none, errW_some] <;> rfl), by repeat (first | (with_reducible first | exact HB.out | apply below_alloc | apply pw_below_drewN | apply below_drew1 | refine below_set ?_ GE191.out) | exact HB.out)⟩
                · rw [if_neg c45] at H
                  have c45b0 : (a0_4 == 0 && (a0_5.toList == ([] : List UInt8))) = false := by simpa using c45
                  have c45b0e : (a0_4 == 0 && a0_5.toList.isEmpty) = false := by rw [show a0_5.toList.isEmpty = (a0_5.toList == ([] : List UInt8)) from by cases a0_5.toList <;> rfl]; exact c45b0
                  (try (have c45b1 : decide (a0_4 = 0 && (a0_5.toList == ([] : List UInt8))) = false := by simpa using c45))
                  (try (have c45b2 : (a0_4 == 0 && (a0_5.toList == ([] : List UInt8))) = false := by simpa using c45))
                  (try (have c45b3 : ¬ (a0_4 = 0 && (a0_5.toList == ([] : List UInt8))) := by simpa using c45))
                  clear c45
                  obtain rfl := Option.some.inj H
                  have hcz54_0 : wc.cell? ⟨gb191, 0, none⟩ = some (.int .i64 a0_0) := (blk_cell BK191.out 0).trans rfl
                  have hcz54_1 : wc.cell? ⟨gb191, 1, none⟩ = some (.int .i64 a0_1) := (blk_cell BK191.out 1).trans rfl
                  have hcz54_2 : wc.cell? ⟨gb191, 2, none⟩ = some (.int .i64 a0_2) := (blk_cell BK191.out 2).trans rfl
                  have hcz54_3 : wc.cell? ⟨gb191, 3, none⟩ = some (.int .i64 a0_3) := (blk_cell BK191.out 3).trans rfl
                  have hcz54_4 : wc.cell? ⟨gb191, 4, none⟩ = some (.int .i64 a0_4) := (blk_cell BK191.out 4).trans rfl
                  have hcz54_5 : wc.cell? ⟨gb191, 5, none⟩ = some (.string a0_5) := (blk_cell BK191.out 5).trans rfl
                  have hfz54_0 := blk_frozen BK191.out 0
                  have hfz54_1 := blk_frozen BK191.out 1
                  have hfz54_2 := blk_frozen BK191.out 2
                  have hfz54_3 := blk_frozen BK191.out 3
                  have hfz54_4 := blk_frozen BK191.out 4
                  have hfz54_5 := blk_frozen BK191.out 5
                  go_wp2
                  go_ret
                  exact ⟨by first | rfl | (simp [errW_none, errW_some] <;> rfl) | (simp [*, errW_none, errW_some] <;> rfl), by repeat (first | (with_reducible first | exact HB.out | apply below_alloc | apply pw_below_drewN | apply below_drew1 | refine below_set ?_ GE191.out) | exact HB.out)⟩
              · rw [if_neg c44] at H
                have c44b0 : (a0_0 == 5) = false := beq_eq_false_iff_ne.mpr c44
                have c44b1 : (a0_0 != 5) = true := bne_iff_ne.mpr c44
                by_cases c55 : a0_0 = 6
                · rw [if_pos c55] at H
                  have c55b0 : (a0_0 == 6) = true := beq_iff_eq.mpr c55
                  have c55b1 : (a0_0 != 6) = false := bne_eq_false_iff_eq.mpr c55
                  clear c55
                  replace H := Option.bind_eq_some_iff.mp H
                  obtain ⟨t202, A560, H⟩ := H
                  replace H : (if t202 = true then ((impl_isReg.f a0_2).bind fun t203 => (if t203 = true then ((impl_pairOk.f a0_3 a0_4).bind fun t204 => (if t204 = true then ((impl_isName.f kj34 a0_5).bind fun t205 => (some t205)) else (some false))) else (some false))) else (some false)) = some r := H
                  have A56 := Aside0.mk A560
                  clear A560
                  by_cases c57 : t202 = true
                  · subst c57
                    have H1 : ((impl_isReg.f a0_2).bind fun t203 => (if t203 = true then ((impl_pairOk.f a0_3 a0_4).bind fun t204 => (if t204 = true then ((impl_isName.f kj34 a0_5).bind fun t205 => (some t205)) else (some false))) else (some false))) = some r := by rw [if_pos rfl] at H; exact H
                    clear H
                    have H := H1
                    clear H1
                    replace H := Option.bind_eq_some_iff.mp H
                    obtain ⟨t203, A580, H⟩ := H
                    replace H : (if t203 = true then ((impl_pairOk.f a0_3 a0_4).bind fun t204 => (if t204 = true then ((impl_isName.f kj34 a0_5).bind fun t205 => (some t205)) else (some false))) else (some false)) = some r := H
                    have A58 := Aside0.mk A580
                    clear A580
                    by_cases c59 : t203 = true
                    · subst c59
                      have H1 : ((impl_pairOk.f a0_3 a0_4).bind fun t204 => (if t204 = true then ((impl_isName.f kj34 a0_5).bind fun t205 => (some t205)) else (some false))) = some r := by rw [if_pos rfl] at H; exact H
                      clear H
                      have H := H1
                      clear H1
                      replace H := Option.bind_eq_some_iff.mp H
                      obtain ⟨t204, A600, H⟩ := H
                      replace H : (if t204 = true then ((impl_isName.f kj34 a0_5).bind fun t205 => (some t205)) else (some false)) = some r := H
                      have A60 := Aside0.mk A600
                      clear A600
                      by_cases c61 : t204 = true
                      · subst c61
                        have H1 : ((impl_isName.f kj34 a0_5).bind fun t205 => (some t205)) = some r := by rw [if_pos rfl] at H; exact H
                        clear H
                        have H := H1
                        clear H1
                        replace H := Option.bind_eq_some_iff.mp H
                        obtain ⟨t205, A620, H⟩ := H
                        replace H : (some t205) = some r := H
                        have A62 := Aside0.mk A620
                        clear A620
                        obtain rfl := Option.some.inj H
                        have hcz63_0 : wc.cell? ⟨gb191, 0, none⟩ = some (.int .i64 a0_0) := (blk_cell BK191.out 0).trans rfl
                        have hcz63_1 : wc.cell? ⟨gb191, 1, none⟩ = some (.int .i64 a0_1) := (blk_cell BK191.out 1).trans rfl
                        have hcz63_2 : wc.cell? ⟨gb191, 2, none⟩ = some (.int .i64 a0_2) := (blk_cell BK191.out 2).trans rfl
                        have hcz63_3 : wc.cell? ⟨gb191, 3, none⟩ = some (.int .i64 a0_3) := (blk_cell BK191.out 3).trans rfl
                        have hcz63_4 : wc.cell? ⟨gb191, 4, none⟩ = some (.int .i64 a0_4) := (blk_cell BK191.out 4).trans rfl
                        have hcz63_5 : wc.cell? ⟨gb191, 5, none⟩ = some (.string a0_5) := (blk_cell BK191.out 5).trans rfl
                        have hfz63_0 := blk_frozen BK191.out 0
                        have hfz63_1 := blk_frozen BK191.out 1
                        have hfz63_2 := blk_frozen BK191.out 2
                        have hfz63_3 := blk_frozen BK191.out 3
                        have hfz63_4 := blk_frozen BK191.out 4
                        have hfz63_5 := blk_frozen BK191.out 5
                        go_wp2_with (first | ((with_reducible refine gate_callee (f := 44) rfl ?_); refine goesL_ (some 115) rfl rfl Tryd.func44 (by kernel_rfl) rfl #[.int .i64 a0_1] rfl (by (try simp only [List.map_toArray, List.map_cons, List.map_nil]); first | done | rfl | (simp only [List.length_drop, List.length_take]; rfl)) ?_; (with_reducible refine (impl_isReg.calls a0_1 true _ A56.out).mono ?_); rintro e w' ⟨rfl, ⟨nd, rfl⟩⟩; refine ⟨_, rfl, ?_⟩) | (go_at_call 44; (with_reducible refine (impl_isReg.calls a0_2 true _ A58.out).mono ?_); rintro e w' ⟨rfl, ⟨nd, rfl⟩⟩) | (go_at_call 72; (with_reducible refine (impl_pairOk.calls a0_3 a0_4 true _ A60.out).mono ?_); rintro e w' ⟨rfl, ⟨nd, rfl⟩⟩) | (go_at_call 73; (with_reducible refine (impl_isName.calls kj34 a0_5 t205 _ A62.out).mono ?_); rintro e w' ⟨rfl, ⟨nd, rfl⟩⟩))
                        go_ret
                        exact ⟨by first | rfl | (simp [errW_none, errW_some] <;> rfl) | (simp [*, errW_none, errW_some] <;> rfl), by repeat (first | (with_reducible first | exact HB.out | apply below_alloc | apply pw_below_drewN | apply below_drew1 | refine below_set ?_ GE191.out) | exact HB.out)⟩
                      · replace c61 := Bool.eq_false_iff.mpr c61
                        subst c61
                        have H1 : (some false) = some r := by rw [if_neg (show ¬ (false = true) by decide)] at H; exact H
                        clear H
                        have H := H1
                        clear H1
                        obtain rfl := Option.some.inj H
                        have hcz64_0 : wc.cell? ⟨gb191, 0, none⟩ = some (.int .i64 a0_0) := (blk_cell BK191.out 0).trans rfl
                        have hcz64_1 : wc.cell? ⟨gb191, 1, none⟩ = some (.int .i64 a0_1) := (blk_cell BK191.out 1).trans rfl
                        have hcz64_2 : wc.cell? ⟨gb191, 2, none⟩ = some (.int .i64 a0_2) := (blk_cell BK191.out 2).trans rfl
                        have hcz64_3 : wc.cell? ⟨gb191, 3, none⟩ = some (.int .i64 a0_3) := (blk_cell BK191.out 3).trans rfl
                        have hcz64_4 : wc.cell? ⟨gb191, 4, none⟩ = some (.int .i64 a0_4) := (blk_cell BK191.out 4).trans rfl
                        have hcz64_5 : wc.cell? ⟨gb191, 5, none⟩ = some (.string a0_5) := (blk_cell BK191.out 5).trans rfl
                        have hfz64_0 := blk_frozen BK191.out 0
                        have hfz64_1 := blk_frozen BK191.out 1
                        have hfz64_2 := blk_frozen BK191.out 2
                        have hfz64_3 := blk_frozen BK191.out 3
                        have hfz64_4 := blk_frozen BK191.out 4
                        have hfz64_5 := blk_frozen BK191.out 5
                        go_wp2_with (first | ((with_reducible refine gate_callee (f := 44) rfl ?_); refine goesL_ (some 115) rfl rfl Tryd.func44 (by kernel_rfl) rfl #[.int .i64 a0_1] rfl (by (try simp only [List.map_toArray, List.map_cons, List.map_nil]); first | done | rfl | (simp only [List.length_drop, List.length_take]; rfl)) ?_; (with_reducible refine (impl_isReg.calls a0_1 true _ A56.out).mono ?_); rintro e w' ⟨rfl, ⟨nd, rfl⟩⟩; refine ⟨_, rfl, ?_⟩) | (go_at_call 44; (with_reducible refine (impl_isReg.calls a0_2 true _ A58.out).mono ?_); rintro e w' ⟨rfl, ⟨nd, rfl⟩⟩) | (go_at_call 72; (with_reducible refine (impl_pairOk.calls a0_3 a0_4 false _ A60.out).mono ?_); rintro e w' ⟨rfl, ⟨nd, rfl⟩⟩))
                        go_ret
                        exact ⟨by first | rfl | (simp [errW_none, errW_some] <;> rfl) | (simp [*, errW_none, errW_some] <;> rfl), by repeat (first | (with_reducible first | exact HB.out | apply below_alloc | apply pw_below_drewN | apply below_drew1 | refine below_set ?_ GE191.out) | exact HB.out)⟩
                    · replace c59 := Bool.eq_false_iff.mpr c59
                      subst c59
                      have H1 : (some false) = some r := by rw [if_neg (show ¬ (false = true) by decide)] at H; exact H
                      clear H
                      have H := H1
                      clear H1
                      obtain rfl := Option.some.inj H
                      have hcz65_0 : wc.cell? ⟨gb191, 0, none⟩ = some (.int .i64 a0_0) := (blk_cell BK191.out 0).trans rfl
                      have hcz65_1 : wc.cell? ⟨gb191, 1, none⟩ = some (.int .i64 a0_1) := (blk_cell BK191.out 1).trans rfl
                      have hcz65_2 : wc.cell? ⟨gb191, 2, none⟩ = some (.int .i64 a0_2) := (blk_cell BK191.out 2).trans rfl
                      have hcz65_3 : wc.cell? ⟨gb191, 3, none⟩ = some (.int .i64 a0_3) := (blk_cell BK191.out 3).trans rfl
                      have hcz65_4 : wc.cell? ⟨gb191, 4, none⟩ = some (.int .i64 a0_4) := (blk_cell BK191.out 4).trans rfl
                      have hcz65_5 : wc.cell? ⟨gb191, 5, none⟩ = some (.string a0_5) := (blk_cell BK191.out 5).trans rfl
                      have hfz65_0 := blk_frozen BK191.out 0
                      have hfz65_1 := blk_frozen BK191.out 1
                      have hfz65_2 := blk_frozen BK191.out 2
                      have hfz65_3 := blk_frozen BK191.out 3
                      have hfz65_4 := blk_frozen BK191.out 4
                      have hfz65_5 := blk_frozen BK191.out 5
                      go_wp2_with (first | ((with_reducible refine gate_callee (f := 44) rfl ?_); refine goesL_ (some 115) rfl rfl Tryd.func44 (by kernel_rfl) rfl #[.int .i64 a0_1] rfl (by (try simp only [List.map_toArray, List.map_cons, List.map_nil]); first | done | rfl | (simp only [List.length_drop, List.length_take]; rfl)) ?_; (with_reducible refine (impl_isReg.calls a0_1 true _ A56.out).mono ?_); rintro e w' ⟨rfl, ⟨nd, rfl⟩⟩; refine ⟨_, rfl, ?_⟩) | (go_at_call 44; (with_reducible refine (impl_isReg.calls a0_2 false _ A58.out).mono ?_); rintro e w' ⟨rfl, ⟨nd, rfl⟩⟩))
                      go_ret
                      exact ⟨by first | rfl | (simp [errW_none, errW_some] <;> rfl) | (simp [*, errW_none, errW_some] <;> rfl), by repeat (first | (with_reducible first | exact HB.out | apply below_alloc | apply pw_below_drewN | apply below_drew1 | refine below_set ?_ GE191.out) | exact HB.out)⟩
                  · replace c57 := Bool.eq_false_iff.mpr c57
                    subst c57
                    have H1 : (some false) = some r := by rw [if_neg (show ¬ (false = true) by decide)] at H; exact H
                    clear H
                    have H := H1
                    clear H1
                    obtain rfl := Option.some.inj H
                    have hcz66_0 : wc.cell? ⟨gb191, 0, none⟩ = some (.int .i64 a0_0) := (blk_cell BK191.out 0).trans rfl
                    have hcz66_1 : wc.cell? ⟨gb191, 1, none⟩ = some (.int .i64 a0_1) := (blk_cell BK191.out 1).trans rfl
                    have hcz66_2 : wc.cell? ⟨gb191, 2, none⟩ = some (.int .i64 a0_2) := (blk_cell BK191.out 2).trans rfl
                    have hcz66_3 : wc.cell? ⟨gb191, 3, none⟩ = some (.int .i64 a0_3) := (blk_cell BK191.out 3).trans rfl
                    have hcz66_4 : wc.cell? ⟨gb191, 4, none⟩ = some (.int .i64 a0_4) := (blk_cell BK191.out 4).trans rfl
                    have hcz66_5 : wc.cell? ⟨gb191, 5, none⟩ = some (.string a0_5) := (blk_cell BK191.out 5).trans rfl
                    have hfz66_0 := blk_frozen BK191.out 0
                    have hfz66_1 := blk_frozen BK191.out 1
                    have hfz66_2 := blk_frozen BK191.out 2
                    have hfz66_3 := blk_frozen BK191.out 3
                    have hfz66_4 := blk_frozen BK191.out 4
                    have hfz66_5 := blk_frozen BK191.out 5
                    go_wp2_with (first | ((with_reducible refine gate_callee (f := 44) rfl ?_); refine goesL_ (some 115) rfl rfl Tryd.func44 (by kernel_rfl) rfl #[.int .i64 a0_1] rfl (by (try simp only [List.map_toArray, List.map_cons, List.map_nil]); first | done | rfl | (simp only [List.length_drop, List.length_take]; rfl)) ?_; (with_reducible refine (impl_isReg.calls a0_1 false _ A56.out).mono ?_); rintro e w' ⟨rfl, ⟨nd, rfl⟩⟩; refine ⟨_, rfl, ?_⟩))
                    go_ret
                    exact ⟨by first | rfl | (simp [errW_none, errW_some] <;> rfl) | (simp [*, errW_none, errW_some] <;> rfl), by repeat (first | (with_reducible first | exact HB.out | apply below_alloc | apply pw_below_drewN | apply below_drew1 | refine below_set ?_ GE191.out) | exact HB.out)⟩
                · rw [if_neg c55] at H
                  have c55b0 : (a0_0 == 6) = false := beq_eq_false_iff_ne.mpr c55
                  have c55b1 : (a0_0 != 6) = true := bne_iff_ne.mpr c55
                  by_cases c67 : a0_0 = 7
                  · rw [if_pos c67] at H
                    have c67b0 : (a0_0 == 7) = true := beq_iff_eq.mpr c67
                    have c67b1 : (a0_0 != 7) = false := bne_eq_false_iff_eq.mpr c67
                    clear c67
                    replace H := Option.bind_eq_some_iff.mp H
                    obtain ⟨t206, A680, H⟩ := H
                    replace H : (if t206 = true then (if a0_2 = 0 then ((impl_pairOk.f a0_3 a0_4).bind fun t207 => (if t207 = true then ((impl_isName.f kj34 a0_5).bind fun t208 => (some t208)) else (some false))) else (some false)) else (some false)) = some r := H
                    have A68 := Aside0.mk A680
                    clear A680
                    by_cases c69 : t206 = true
                    · subst c69
                      have H1 : (if a0_2 = 0 then ((impl_pairOk.f a0_3 a0_4).bind fun t207 => (if t207 = true then ((impl_isName.f kj34 a0_5).bind fun t208 => (some t208)) else (some false))) else (some false)) = some r := by rw [if_pos rfl] at H; exact H
                      clear H
                      have H := H1
                      clear H1
                      by_cases c70 : a0_2 = 0
                      · rw [if_pos c70] at H
                        have c70b0 : (a0_2 == 0) = true := beq_iff_eq.mpr c70
                        have c70b1 : (a0_2 != 0) = false := bne_eq_false_iff_eq.mpr c70
                        clear c70
                        replace H := Option.bind_eq_some_iff.mp H
                        obtain ⟨t207, A710, H⟩ := H
                        replace H : (if t207 = true then ((impl_isName.f kj34 a0_5).bind fun t208 => (some t208)) else (some false)) = some r := H
                        have A71 := Aside0.mk A710
                        clear A710
                        by_cases c72 : t207 = true
                        · subst c72
                          have H1 : ((impl_isName.f kj34 a0_5).bind fun t208 => (some t208)) = some r := by rw [if_pos rfl] at H; exact H
                          clear H
                          have H := H1
                          clear H1
                          replace H := Option.bind_eq_some_iff.mp H
                          obtain ⟨t208, A730, H⟩ := H
                          replace H : (some t208) = some r := H
                          have A73 := Aside0.mk A730
                          clear A730
                          obtain rfl := Option.some.inj H
                          have hcz74_0 : wc.cell? ⟨gb191, 0, none⟩ = some (.int .i64 a0_0) := (blk_cell BK191.out 0).trans rfl
                          have hcz74_1 : wc.cell? ⟨gb191, 1, none⟩ = some (.int .i64 a0_1) := (blk_cell BK191.out 1).trans rfl
                          have hcz74_2 : wc.cell? ⟨gb191, 2, none⟩ = some (.int .i64 a0_2) := (blk_cell BK191.out 2).trans rfl
                          have hcz74_3 : wc.cell? ⟨gb191, 3, none⟩ = some (.int .i64 a0_3) := (blk_cell BK191.out 3).trans rfl
                          have hcz74_4 : wc.cell? ⟨gb191, 4, none⟩ = some (.int .i64 a0_4) := (blk_cell BK191.out 4).trans rfl
                          have hcz74_5 : wc.cell? ⟨gb191, 5, none⟩ = some (.string a0_5) := (blk_cell BK191.out 5).trans rfl
                          have hfz74_0 := blk_frozen BK191.out 0
                          have hfz74_1 := blk_frozen BK191.out 1
                          have hfz74_2 := blk_frozen BK191.out 2
                          have hfz74_3 := blk_frozen BK191.out 3
                          have hfz74_4 := blk_frozen BK191.out 4
                          have hfz74_5 := blk_frozen BK191.out 5
                          go_wp2_with (first | ((with_reducible refine gate_callee (f := 44) rfl ?_); refine goesL_ (some 137) rfl rfl Tryd.func44 (by kernel_rfl) rfl #[.int .i64 a0_1] rfl (by (try simp only [List.map_toArray, List.map_cons, List.map_nil]); first | done | rfl | (simp only [List.length_drop, List.length_take]; rfl)) ?_; (with_reducible refine (impl_isReg.calls a0_1 true _ A68.out).mono ?_); rintro e w' ⟨rfl, ⟨nd, rfl⟩⟩; refine ⟨_, rfl, ?_⟩) | (go_at_call 72; (with_reducible refine (impl_pairOk.calls a0_3 a0_4 true _ A71.out).mono ?_); rintro e w' ⟨rfl, ⟨nd, rfl⟩⟩) | (go_at_call 73; (with_reducible refine (impl_isName.calls kj34 a0_5 t208 _ A73.out).mono ?_); rintro e w' ⟨rfl, ⟨nd, rfl⟩⟩))
                          go_ret
                          exact ⟨by first | rfl | (simp [errW_none, errW_some] <;> rfl) | (simp [*, errW_none, errW_some] <;> rfl), by repeat (first | (with_reducible first | exact HB.out | apply below_alloc | apply pw_below_drewN | apply below_drew1 | refine below_set ?_ GE191.out) | exact HB.out)⟩
                        · replace c72 := Bool.eq_false_iff.mpr c72
                          subst c72
                          have H1 : (some false) = some r := by rw [if_neg (show ¬ (false = true) by decide)] at H; exact H
                          clear H
                          have H := H1
                          clear H1
                          obtain rfl := Option.some.inj H
                          have hcz75_0 : wc.cell? ⟨gb191, 0, none⟩ = some (.int .i64 a0_0) := (blk_cell BK191.out 0).trans rfl
                          have hcz75_1 : wc.cell? ⟨gb191, 1, none⟩ = some (.int .i64 a0_1) := (blk_cell BK191.out 1).trans rfl
                          have hcz75_2 : wc.cell? ⟨gb191, 2, none⟩ = some (.int .i64 a0_2) := (blk_cell BK191.out 2).trans rfl
                          have hcz75_3 : wc.cell? ⟨gb191, 3, none⟩ = some (.int .i64 a0_3) := (blk_cell BK191.out 3).trans rfl
                          have hcz75_4 : wc.cell? ⟨gb191, 4, none⟩ = some (.int .i64 a0_4) := (blk_cell BK191.out 4).trans rfl
                          have hcz75_5 : wc.cell? ⟨gb191, 5, none⟩ = some (.string a0_5) := (blk_cell BK191.out 5).trans rfl
                          have hfz75_0 := blk_frozen BK191.out 0
                          have hfz75_1 := blk_frozen BK191.out 1
                          have hfz75_2 := blk_frozen BK191.out 2
                          have hfz75_3 := blk_frozen BK191.out 3
                          have hfz75_4 := blk_frozen BK191.out 4
                          have hfz75_5 := blk_frozen BK191.out 5
                          go_wp2_with (first | ((with_reducible refine gate_callee (f := 44) rfl ?_); refine goesL_ (some 137) rfl rfl Tryd.func44 (by kernel_rfl) rfl #[.int .i64 a0_1] rfl (by (try simp only [List.map_toArray, List.map_cons, List.map_nil]); first | done | rfl | (simp only [List.length_drop, List.length_take]; rfl)) ?_; (with_reducible refine (impl_isReg.calls a0_1 true _ A68.out).mono ?_); rintro e w' ⟨rfl, ⟨nd, rfl⟩⟩; refine ⟨_, rfl, ?_⟩) | (go_at_call 72; (with_reducible refine (impl_pairOk.calls a0_3 a0_4 false _ A71.out).mono ?_); rintro e w' ⟨rfl, ⟨nd, rfl⟩⟩))
                          go_ret
                          exact ⟨by first | rfl | (simp [errW_none, errW_some] <;> rfl) | (simp [*, errW_none, errW_some] <;> rfl), by repeat (first | (with_reducible first | exact HB.out | apply below_alloc | apply pw_below_drewN | apply below_drew1 | refine below_set ?_ GE191.out) | exact HB.out)⟩
                      · rw [if_neg c70] at H
                        have c70b0 : (a0_2 == 0) = false := beq_eq_false_iff_ne.mpr c70
                        have c70b1 : (a0_2 != 0) = true := bne_iff_ne.mpr c70
                        obtain rfl := Option.some.inj H
                        have hcz76_0 : wc.cell? ⟨gb191, 0, none⟩ = some (.int .i64 a0_0) := (blk_cell BK191.out 0).trans rfl
                        have hcz76_1 : wc.cell? ⟨gb191, 1, none⟩ = some (.int .i64 a0_1) := (blk_cell BK191.out 1).trans rfl
                        have hcz76_2 : wc.cell? ⟨gb191, 2, none⟩ = some (.int .i64 a0_2) := (blk_cell BK191.out 2).trans rfl
                        have hcz76_3 : wc.cell? ⟨gb191, 3, none⟩ = some (.int .i64 a0_3) := (blk_cell BK191.out 3).trans rfl
                        have hcz76_4 : wc.cell? ⟨gb191, 4, none⟩ = some (.int .i64 a0_4) := (blk_cell BK191.out 4).trans rfl
                        have hcz76_5 : wc.cell? ⟨gb191, 5, none⟩ = some (.string a0_5) := (blk_cell BK191.out 5).trans rfl
                        have hfz76_0 := blk_frozen BK191.out 0
                        have hfz76_1 := blk_frozen BK191.out 1
                        have hfz76_2 := blk_frozen BK191.out 2
                        have hfz76_3 := blk_frozen BK191.out 3
                        have hfz76_4 := blk_frozen BK191.out 4
                        have hfz76_5 := blk_frozen BK191.out 5
                        go_wp2_with (first | ((with_reducible refine gate_callee (f := 44) rfl ?_); refine goesL_ (some 137) rfl rfl Tryd.func44 (by kernel_rfl) rfl #[.int .i64 a0_1] rfl (by (try simp only [List.map_toArray, List.map_cons, List.map_nil]); first | done | rfl | (simp only [List.length_drop, List.length_take]; rfl)) ?_; (with_reducible refine (impl_isReg.calls a0_1 true _ A68.out).mono ?_); rintro e w' ⟨rfl, ⟨nd, rfl⟩⟩; refine ⟨_, rfl, ?_⟩))
                        go_ret
                        exact ⟨by first | rfl | (simp [errW_none, errW_some] <;> rfl) | (simp [*, errW_none, errW_some] <;> rfl), by repeat (first | (with_reducible first | exact HB.out | apply below_alloc | apply pw_below_drewN | apply below_drew1 | refine below_set ?_ GE191.out) | exact HB.out)⟩
                    · replace c69 := Bool.eq_false_iff.mpr c69
                      subst c69
                      have H1 : (some false) = some r := by rw [if_neg (show ¬ (false = true) by decide)] at H; exact H
                      clear H
                      have H := H1
                      clear H1
                      obtain rfl := Option.some.inj H
                      have hcz77_0 : wc.cell? ⟨gb191, 0, none⟩ = some (.int .i64 a0_0) := (blk_cell BK191.out 0).trans rfl
                      have hcz77_1 : wc.cell? ⟨gb191, 1, none⟩ = some (.int .i64 a0_1) := (blk_cell BK191.out 1).trans rfl
                      have hcz77_2 : wc.cell? ⟨gb191, 2, none⟩ = some (.int .i64 a0_2) := (blk_cell BK191.out 2).trans rfl
                      have hcz77_3 : wc.cell? ⟨gb191, 3, none⟩ = some (.int .i64 a0_3) := (blk_cell BK191.out 3).trans rfl
                      have hcz77_4 : wc.cell? ⟨gb191, 4, none⟩ = some (.int .i64 a0_4) := (blk_cell BK191.out 4).trans rfl
                      have hcz77_5 : wc.cell? ⟨gb191, 5, none⟩ = some (.string a0_5) := (blk_cell BK191.out 5).trans rfl
                      have hfz77_0 := blk_frozen BK191.out 0
                      have hfz77_1 := blk_frozen BK191.out 1
                      have hfz77_2 := blk_frozen BK191.out 2
                      have hfz77_3 := blk_frozen BK191.out 3
                      have hfz77_4 := blk_frozen BK191.out 4
                      have hfz77_5 := blk_frozen BK191.out 5
                      go_wp2_with (first | ((with_reducible refine gate_callee (f := 44) rfl ?_); refine goesL_ (some 137) rfl rfl Tryd.func44 (by kernel_rfl) rfl #[.int .i64 a0_1] rfl (by (try simp only [List.map_toArray, List.map_cons, List.map_nil]); first | done | rfl | (simp only [List.length_drop, List.length_take]; rfl)) ?_; (with_reducible refine (impl_isReg.calls a0_1 false _ A68.out).mono ?_); rintro e w' ⟨rfl, ⟨nd, rfl⟩⟩; refine ⟨_, rfl, ?_⟩))
                      go_ret
                      exact ⟨by first | rfl | (simp [errW_none, errW_some] <;> rfl) | (simp [*, errW_none, errW_some] <;> rfl), by repeat (first | (with_reducible first | exact HB.out | apply below_alloc | apply pw_below_drewN | apply below_drew1 | refine below_set ?_ GE191.out) | exact HB.out)⟩
                  · rw [if_neg c67] at H
                    have c67b0 : (a0_0 == 7) = false := beq_eq_false_iff_ne.mpr c67
                    have c67b1 : (a0_0 != 7) = true := bne_iff_ne.mpr c67
                    by_cases c78 : a0_0 = 8
                    · rw [if_pos c78] at H
                      have c78b0 : (a0_0 == 8) = true := beq_iff_eq.mpr c78
                      have c78b1 : (a0_0 != 8) = false := bne_eq_false_iff_eq.mpr c78
                      clear c78
                      by_cases c79 : (a0_3 == 0 && (a0_4 == 0 && (a0_5.toList == ([] : List UInt8)))) = true
                      · rw [if_pos c79] at H
                        have c79b0 : (a0_3 == 0 && (a0_4 == 0 && (a0_5.toList == ([] : List UInt8)))) = true := c79
                        have c79b0e : (a0_3 == 0 && (a0_4 == 0 && a0_5.toList.isEmpty)) = true := by rw [show a0_5.toList.isEmpty = (a0_5.toList == ([] : List UInt8)) from by cases a0_5.toList <;> rfl]; exact c79b0
                        (try (have c79b1 : decide (a0_3 = 0 && (a0_4 == 0 && (a0_5.toList == ([] : List UInt8)))) = true := by simpa using c79))
                        (try (have c79b2 : (a0_3 == 0 && (a0_4 == 0 && (a0_5.toList == ([] : List UInt8)))) = true := by simpa using c79))
                        clear c79
                        replace H := Option.bind_eq_some_iff.mp H
                        obtain ⟨t209, A800, H⟩ := H
                        replace H : (if t209 = true then ((impl_isReg.f a0_2).bind fun t210 => (some t210)) else (some false)) = some r := H
                        have A80 := Aside0.mk A800
                        clear A800
                        by_cases c81 : t209 = true
                        · subst c81
                          have H1 : ((impl_isReg.f a0_2).bind fun t210 => (some t210)) = some r := by rw [if_pos rfl] at H; exact H
                          clear H
                          have H := H1
                          clear H1
                          replace H := Option.bind_eq_some_iff.mp H
                          obtain ⟨t210, A820, H⟩ := H
                          replace H : (some t210) = some r := H
                          have A82 := Aside0.mk A820
                          clear A820
                          obtain rfl := Option.some.inj H
                          have hcz83_0 : wc.cell? ⟨gb191, 0, none⟩ = some (.int .i64 a0_0) := (blk_cell BK191.out 0).trans rfl
                          have hcz83_1 : wc.cell? ⟨gb191, 1, none⟩ = some (.int .i64 a0_1) := (blk_cell BK191.out 1).trans rfl
                          have hcz83_2 : wc.cell? ⟨gb191, 2, none⟩ = some (.int .i64 a0_2) := (blk_cell BK191.out 2).trans rfl
                          have hcz83_3 : wc.cell? ⟨gb191, 3, none⟩ = some (.int .i64 a0_3) := (blk_cell BK191.out 3).trans rfl
                          have hcz83_4 : wc.cell? ⟨gb191, 4, none⟩ = some (.int .i64 a0_4) := (blk_cell BK191.out 4).trans rfl
                          have hcz83_5 : wc.cell? ⟨gb191, 5, none⟩ = some (.string a0_5) := (blk_cell BK191.out 5).trans rfl
                          have hfz83_0 := blk_frozen BK191.out 0
                          have hfz83_1 := blk_frozen BK191.out 1
                          have hfz83_2 := blk_frozen BK191.out 2
                          have hfz83_3 := blk_frozen BK191.out 3
                          have hfz83_4 := blk_frozen BK191.out 4
                          have hfz83_5 := blk_frozen BK191.out 5
                          go_wp2_with (first | (go_at_call 39; (with_reducible refine (impl_in.calls a0_1 0 2 true _ A80.out).mono ?_); rintro e w' ⟨rfl, ⟨nd, rfl⟩⟩) | (go_at_call 44; (with_reducible refine (impl_isReg.calls a0_2 t210 _ A82.out).mono ?_); rintro e w' ⟨rfl, ⟨nd, rfl⟩⟩))
                          go_ret
                          exact ⟨by first | rfl | (simp [errW_none, errW_some] <;> rfl) | (simp [*, errW_none, errW_some] <;> rfl), by repeat (first | (with_reducible first | exact HB.out | apply below_alloc | apply pw_below_drewN | apply below_drew1 | refine below_set ?_ GE191.out) | exact HB.out)⟩
                        · replace c81 := Bool.eq_false_iff.mpr c81
                          subst c81
                          have H1 : (some false) = some r := by rw [if_neg (show ¬ (false = true) by decide)] at H; exact H
                          clear H
                          have H := H1
                          clear H1
                          obtain rfl := Option.some.inj H
                          have hcz84_0 : wc.cell? ⟨gb191, 0, none⟩ = some (.int .i64 a0_0) := (blk_cell BK191.out 0).trans rfl
                          have hcz84_1 : wc.cell? ⟨gb191, 1, none⟩ = some (.int .i64 a0_1) := (blk_cell BK191.out 1).trans rfl
                          have hcz84_2 : wc.cell? ⟨gb191, 2, none⟩ = some (.int .i64 a0_2) := (blk_cell BK191.out 2).trans rfl
                          have hcz84_3 : wc.cell? ⟨gb191, 3, none⟩ = some (.int .i64 a0_3) := (blk_cell BK191.out 3).trans rfl
                          have hcz84_4 : wc.cell? ⟨gb191, 4, none⟩ = some (.int .i64 a0_4) := (blk_cell BK191.out 4).trans rfl
                          have hcz84_5 : wc.cell? ⟨gb191, 5, none⟩ = some (.string a0_5) := (blk_cell BK191.out 5).trans rfl
                          have hfz84_0 := blk_frozen BK191.out 0
                          have hfz84_1 := blk_frozen BK191.out 1
                          have hfz84_2 := blk_frozen BK191.out 2
                          have hfz84_3 := blk_frozen BK191.out 3
                          have hfz84_4 := blk_frozen BK191.out 4
                          have hfz84_5 := blk_frozen BK191.out 5
                          go_wp2_with (first | (go_at_call 39; (with_reducible refine (impl_in.calls a0_1 0 2 false _ A80.out).mono ?_); rintro e w' ⟨rfl, ⟨nd, rfl⟩⟩))
                          go_ret
                          exact ⟨by first | rfl | (simp [errW_none, errW_some] <;> rfl) | (simp [*, errW_none, errW_some] <;> rfl), by repeat (first | (with_reducible first | exact HB.out | apply below_alloc | apply pw_below_drewN | apply below_drew1 | refine below_set ?_ GE191.out) | exact HB.out)⟩
                      · rw [if_neg c79] at H
                        have c79b0 : (a0_3 == 0 && (a0_4 == 0 && (a0_5.toList == ([] : List UInt8)))) = false := by simpa using c79
                        have c79b0e : (a0_3 == 0 && (a0_4 == 0 && a0_5.toList.isEmpty)) = false := by rw [show a0_5.toList.isEmpty = (a0_5.toList == ([] : List UInt8)) from by cases a0_5.toList <;> rfl]; exact c79b0
                        (try (have c79b1 : decide (a0_3 = 0 && (a0_4 == 0 && (a0_5.toList == ([] : List UInt8)))) = false := by simpa using c79))
                        (try (have c79b2 : (a0_3 == 0 && (a0_4 == 0 && (a0_5.toList == ([] : List UInt8)))) = false := by simpa using c79))
                        (try (have c79b3 : ¬ (a0_3 = 0 && (a0_4 == 0 && (a0_5.toList == ([] : List UInt8)))) := by simpa using c79))
                        clear c79
                        obtain rfl := Option.some.inj H
                        have hcz85_0 : wc.cell? ⟨gb191, 0, none⟩ = some (.int .i64 a0_0) := (blk_cell BK191.out 0).trans rfl
                        have hcz85_1 : wc.cell? ⟨gb191, 1, none⟩ = some (.int .i64 a0_1) := (blk_cell BK191.out 1).trans rfl
                        have hcz85_2 : wc.cell? ⟨gb191, 2, none⟩ = some (.int .i64 a0_2) := (blk_cell BK191.out 2).trans rfl
                        have hcz85_3 : wc.cell? ⟨gb191, 3, none⟩ = some (.int .i64 a0_3) := (blk_cell BK191.out 3).trans rfl
                        have hcz85_4 : wc.cell? ⟨gb191, 4, none⟩ = some (.int .i64 a0_4) := (blk_cell BK191.out 4).trans rfl
                        have hcz85_5 : wc.cell? ⟨gb191, 5, none⟩ = some (.string a0_5) := (blk_cell BK191.out 5).trans rfl
                        have hfz85_0 := blk_frozen BK191.out 0
                        have hfz85_1 := blk_frozen BK191.out 1
                        have hfz85_2 := blk_frozen BK191.out 2
                        have hfz85_3 := blk_frozen BK191.out 3
                        have hfz85_4 := blk_frozen BK191.out 4
                        have hfz85_5 := blk_frozen BK191.out 5
                        go_wp2
                        go_ret
                        exact ⟨by first | rfl | (simp [errW_none, errW_some] <;> rfl) | (simp [*, errW_none, errW_some] <;> rfl), by repeat (first | (with_reducible first | exact HB.out | apply below_alloc | apply pw_below_drewN | apply below_drew1 | refine below_set ?_ GE191.out) | exact HB.out)⟩
                    · rw [if_neg c78] at H
                      have c78b0 : (a0_0 == 8) = false := beq_eq_false_iff_ne.mpr c78
                      have c78b1 : (a0_0 != 8) = true := bne_iff_ne.mpr c78
                      by_cases c86 : a0_0 = 9
                      · rw [if_pos c86] at H
                        have c86b0 : (a0_0 == 9) = true := beq_iff_eq.mpr c86
                        have c86b1 : (a0_0 != 9) = false := bne_eq_false_iff_eq.mpr c86
                        clear c86
                        by_cases c87 : (a0_3 == 0 && (a0_4 == 0 && (a0_5.toList == ([] : List UInt8)))) = true
                        · rw [if_pos c87] at H
                          have c87b0 : (a0_3 == 0 && (a0_4 == 0 && (a0_5.toList == ([] : List UInt8)))) = true := c87
                          have c87b0e : (a0_3 == 0 && (a0_4 == 0 && a0_5.toList.isEmpty)) = true := by rw [show a0_5.toList.isEmpty = (a0_5.toList == ([] : List UInt8)) from by cases a0_5.toList <;> rfl]; exact c87b0
                          (try (have c87b1 : decide (a0_3 = 0 && (a0_4 == 0 && (a0_5.toList == ([] : List UInt8)))) = true := by simpa using c87))
                          (try (have c87b2 : (a0_3 == 0 && (a0_4 == 0 && (a0_5.toList == ([] : List UInt8)))) = true := by simpa using c87))
                          clear c87
                          replace H := Option.bind_eq_some_iff.mp H
                          obtain ⟨t211, A880, H⟩ := H
                          replace H : (if t211 = true then ((impl_in.f a0_2 1 12).bind fun t212 => (some t212)) else (some false)) = some r := H
                          have A88 := Aside0.mk A880
                          clear A880
                          by_cases c89 : t211 = true
                          · subst c89
                            have H1 : ((impl_in.f a0_2 1 12).bind fun t212 => (some t212)) = some r := by rw [if_pos rfl] at H; exact H
                            clear H
                            have H := H1
                            clear H1
                            replace H := Option.bind_eq_some_iff.mp H
                            obtain ⟨t212, A900, H⟩ := H
                            replace H : (some t212) = some r := H
                            have A90 := Aside0.mk A900
                            clear A900
                            obtain rfl := Option.some.inj H
                            have hcz91_0 : wc.cell? ⟨gb191, 0, none⟩ = some (.int .i64 a0_0) := (blk_cell BK191.out 0).trans rfl
                            have hcz91_1 : wc.cell? ⟨gb191, 1, none⟩ = some (.int .i64 a0_1) := (blk_cell BK191.out 1).trans rfl
                            have hcz91_2 : wc.cell? ⟨gb191, 2, none⟩ = some (.int .i64 a0_2) := (blk_cell BK191.out 2).trans rfl
                            have hcz91_3 : wc.cell? ⟨gb191, 3, none⟩ = some (.int .i64 a0_3) := (blk_cell BK191.out 3).trans rfl
                            have hcz91_4 : wc.cell? ⟨gb191, 4, none⟩ = some (.int .i64 a0_4) := (blk_cell BK191.out 4).trans rfl
                            have hcz91_5 : wc.cell? ⟨gb191, 5, none⟩ = some (.string a0_5) := (blk_cell BK191.out 5).trans rfl
                            have hfz91_0 := blk_frozen BK191.out 0
                            have hfz91_1 := blk_frozen BK191.out 1
                            have hfz91_2 := blk_frozen BK191.out 2
                            have hfz91_3 := blk_frozen BK191.out 3
                            have hfz91_4 := blk_frozen BK191.out 4
                            have hfz91_5 := blk_frozen BK191.out 5
                            go_wp2_with (first | (go_at_call 44; (with_reducible refine (impl_isReg.calls a0_1 true _ A88.out).mono ?_); rintro e w' ⟨rfl, ⟨nd, rfl⟩⟩) | (go_at_call 39; (with_reducible refine (impl_in.calls a0_2 1 12 t212 _ A90.out).mono ?_); rintro e w' ⟨rfl, ⟨nd, rfl⟩⟩))
                            go_ret
                            exact ⟨by first | rfl | (simp [errW_none, errW_some] <;> rfl) | (simp [*, errW_none, errW_some] <;> rfl), by repeat (first | (with_reducible first | exact HB.out | apply below_alloc | apply pw_below_drewN | apply below_drew1 | refine below_set ?_ GE191.out) | exact HB.out)⟩
                          · replace c89 := Bool.eq_false_iff.mpr c89
                            subst c89
                            have H1 : (some false) = some r := by rw [if_neg (show ¬ (false = true) by decide)] at H; exact H
                            clear H
                            have H := H1
                            clear H1
                            obtain rfl := Option.some.inj H
                            have hcz92_0 : wc.cell? ⟨gb191, 0, none⟩ = some (.int .i64 a0_0) := (blk_cell BK191.out 0).trans rfl
                            have hcz92_1 : wc.cell? ⟨gb191, 1, none⟩ = some (.int .i64 a0_1) := (blk_cell BK191.out 1).trans rfl
                            have hcz92_2 : wc.cell? ⟨gb191, 2, none⟩ = some (.int .i64 a0_2) := (blk_cell BK191.out 2).trans rfl
                            have hcz92_3 : wc.cell? ⟨gb191, 3, none⟩ = some (.int .i64 a0_3) := (blk_cell BK191.out 3).trans rfl
                            have hcz92_4 : wc.cell? ⟨gb191, 4, none⟩ = some (.int .i64 a0_4) := (blk_cell BK191.out 4).trans rfl
                            have hcz92_5 : wc.cell? ⟨gb191, 5, none⟩ = some (.string a0_5) := (blk_cell BK191.out 5).trans rfl
                            have hfz92_0 := blk_frozen BK191.out 0
                            have hfz92_1 := blk_frozen BK191.out 1
                            have hfz92_2 := blk_frozen BK191.out 2
                            have hfz92_3 := blk_frozen BK191.out 3
                            have hfz92_4 := blk_frozen BK191.out 4
                            have hfz92_5 := blk_frozen BK191.out 5
                            go_wp2_with (first | (go_at_call 44; (with_reducible refine (impl_isReg.calls a0_1 false _ A88.out).mono ?_); rintro e w' ⟨rfl, ⟨nd, rfl⟩⟩))
                            go_ret
                            exact ⟨by first | rfl | (simp [errW_none, errW_some] <;> rfl) | (simp [*, errW_none, errW_some] <;> rfl), by repeat (first | (with_reducible first | exact HB.out | apply below_alloc | apply pw_below_drewN | apply below_drew1 | refine below_set ?_ GE191.out) | exact HB.out)⟩
                        · rw [if_neg c87] at H
                          have c87b0 : (a0_3 == 0 && (a0_4 == 0 && (a0_5.toList == ([] : List UInt8)))) = false := by simpa using c87
                          have c87b0e : (a0_3 == 0 && (a0_4 == 0 && a0_5.toList.isEmpty)) = false := by rw [show a0_5.toList.isEmpty = (a0_5.toList == ([] : List UInt8)) from by cases a0_5.toList <;> rfl]; exact c87b0
                          (try (have c87b1 : decide (a0_3 = 0 && (a0_4 == 0 && (a0_5.toList == ([] : List UInt8)))) = false := by simpa using c87))
                          (try (have c87b2 : (a0_3 == 0 && (a0_4 == 0 && (a0_5.toList == ([] : List UInt8)))) = false := by simpa using c87))
                          (try (have c87b3 : ¬ (a0_3 = 0 && (a0_4 == 0 && (a0_5.toList == ([] : List UInt8)))) := by simpa using c87))
                          clear c87
                          obtain rfl := Option.some.inj H
                          have hcz93_0 : wc.cell? ⟨gb191, 0, none⟩ = some (.int .i64 a0_0) := (blk_cell BK191.out 0).trans rfl
                          have hcz93_1 : wc.cell? ⟨gb191, 1, none⟩ = some (.int .i64 a0_1) := (blk_cell BK191.out 1).trans rfl
                          have hcz93_2 : wc.cell? ⟨gb191, 2, none⟩ = some (.int .i64 a0_2) := (blk_cell BK191.out 2).trans rfl
                          have hcz93_3 : wc.cell? ⟨gb191, 3, none⟩ = some (.int .i64 a0_3) := (blk_cell BK191.out 3).trans rfl
                          have hcz93_4 : wc.cell? ⟨gb191, 4, none⟩ = some (.int .i64 a0_4) := (blk_cell BK191.out 4).trans rfl
                          have hcz93_5 : wc.cell? ⟨gb191, 5, none⟩ = some (.string a0_5) := (blk_cell BK191.out 5).trans rfl
                          have hfz93_0 := blk_frozen BK191.out 0
                          have hfz93_1 := blk_frozen BK191.out 1
                          have hfz93_2 := blk_frozen BK191.out 2
                          have hfz93_3 := blk_frozen BK191.out 3
                          have hfz93_4 := blk_frozen BK191.out 4
                          have hfz93_5 := blk_frozen BK191.out 5
                          go_wp2
                          go_ret
                          exact ⟨by first | rfl | (simp [errW_none, errW_some] <;> rfl) | (simp [*, errW_none, errW_some] <;> rfl), by repeat (first | (with_reducible first | exact HB.out | apply below_alloc | apply pw_below_drewN | apply below_drew1 | refine below_set ?_ GE191.out) | exact HB.out)⟩
                      · rw [if_neg c86] at H
                        have c86b0 : (a0_0 == 9) = false := beq_eq_false_iff_ne.mpr c86
                        have c86b1 : (a0_0 != 9) = true := bne_iff_ne.mpr c86
                        obtain rfl := Option.some.inj H
                        go_wp2
                        go_ret
                        exact ⟨by first | rfl | (simp [errW_none, errW_some] <;> rfl) | (simp [*, errW_none, errW_some] <;> rfl), by repeat (first | (with_reducible first | exact HB.out | apply below_alloc | apply pw_below_drewN | apply below_drew1 | refine below_set ?_ GE191.out) | exact HB.out)⟩

end Go.Proofs.YtmipaoobkjppdaaDoor.QFnExactParseInstr
