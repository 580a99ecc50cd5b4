-- Written by a program of this session, after the kit's print, with contracts by hand.
import Derived.Test.YtmipaoobkjppdaaDoorQFnExactParseInstrx0
import Derived.Test.YtmipaoobkjppdaaDoorQFnExactParseInstrx3
import Derived.Test.YtmipaoobkjppdaaDoorQFnExactParseInstrx4
namespace Go.Proofs.YtmipaoobkjppdaaDoor.QFnExactParseInstr
open Go.RowKit Go.Proofs.YtmipaoobkjppdaaDoorW.PrintWords Go.Proofs.YtmipaoobkjppdaaDoorW.PrintLast Go.Proofs.YtmipaoobkjppdaaDoorW.PrintMore
attribute [local go_sem] max2_int min2_int max_two min_two max_three min_three max_four min_four   -- for this text's walks alone
set_option linter.unusedVariables false
set_option linter.unusedSimpArgs false

/-! ### spec_FormatInstr: function 22 -/
mutual
def spec_FormatInstr.j1 : Nat → ByteArray → Int → Int → Int → Int → Int → ByteArray → Option (ByteArray)
  | 0, _, _, _, _, _, _, _ => none
  | k + 1, x3, x142000, x142001, x142002, x142003, x142004, x142005 => if x142003 = (-1) then (if x142004 = (-1) then (some x3) else (if x3.size + 1 ≤ 9223372036854775807 then ((spec_FormatInt.f k x142004).bind fun t147 => (if (x3 ++ (⟨#[32]⟩ : ByteArray)).size + t147.size ≤ 9223372036854775807 then (some ((x3 ++ (⟨#[32]⟩ : ByteArray)) ++ t147)) else (none))) else (none))) else (if x3.size + 1 ≤ 9223372036854775807 then ((spec_FormatInt.f k x142003).bind fun t148 => (if (x3 ++ (⟨#[32]⟩ : ByteArray)).size + t148.size ≤ 9223372036854775807 then (if x142004 = (-1) then (some ((x3 ++ (⟨#[32]⟩ : ByteArray)) ++ t148)) else (if ((x3 ++ (⟨#[32]⟩ : ByteArray)) ++ t148).size + 1 ≤ 9223372036854775807 then ((spec_FormatInt.f k x142004).bind fun t149 => (if (((x3 ++ (⟨#[32]⟩ : ByteArray)) ++ t148) ++ (⟨#[32]⟩ : ByteArray)).size + t149.size ≤ 9223372036854775807 then (some ((((x3 ++ (⟨#[32]⟩ : ByteArray)) ++ t148) ++ (⟨#[32]⟩ : ByteArray)) ++ t149)) else (none))) else (none))) else (none))) else (none))
def spec_FormatInstr.j0 : Nat → ByteArray → ByteArray → ByteArray → Int → Bool → Int → Int → Int → Int → Int → ByteArray → Option (ByteArray)
  | 0, _, _, _, _, _, _, _, _, _, _, _ => none
  | k + 1, x3, x4, x5, x21, x27, x142000, x142001, x142002, x142003, x142004, x142005 => if x27 = true then (if x3.size + x4.size ≤ 9223372036854775807 then (some (x3 ++ x4)) else (none)) else (if x21 = 5 then (if x3.size + x4.size ≤ 9223372036854775807 then (if (x3 ++ x4).size + x5.size ≤ 9223372036854775807 then (if ((x3 ++ x4) ++ x5).size + 1 ≤ 9223372036854775807 then ((spec_FormatInt.f k x142003).bind fun t146 => (if (((x3 ++ x4) ++ x5) ++ (⟨#[32]⟩ : ByteArray)).size + t146.size ≤ 9223372036854775807 then (some ((((x3 ++ x4) ++ x5) ++ (⟨#[32]⟩ : ByteArray)) ++ t146)) else (none))) else (none)) else (none)) else (none)) else (if x21 = 6 then (if x3.size + x4.size ≤ 9223372036854775807 then (if (x3 ++ x4).size + x5.size ≤ 9223372036854775807 then (if ((x3 ++ x4) ++ x5).size + 1 ≤ 9223372036854775807 then (if (((x3 ++ x4) ++ x5) ++ (⟨#[32]⟩ : ByteArray)).size + x142005.size ≤ 9223372036854775807 then (spec_FormatInstr.j1 k ((((x3 ++ x4) ++ x5) ++ (⟨#[32]⟩ : ByteArray)) ++ x142005) x142000 x142001 x142002 x142003 x142004 x142005) else (none)) else (none)) else (none)) else (none)) else (if x21 = 7 then (if x3.size + x4.size ≤ 9223372036854775807 then (if (x3 ++ x4).size + 1 ≤ 9223372036854775807 then (if ((x3 ++ x4) ++ (⟨#[32]⟩ : ByteArray)).size + x142005.size ≤ 9223372036854775807 then (spec_FormatInstr.j1 k (((x3 ++ x4) ++ (⟨#[32]⟩ : ByteArray)) ++ x142005) x142000 x142001 x142002 x142003 x142004 x142005) else (none)) else (none)) else (none)) else (if x3.size + x4.size ≤ 9223372036854775807 then (if (x3 ++ x4).size + x5.size ≤ 9223372036854775807 then (some ((x3 ++ x4) ++ x5)) else (none)) else (none)))))
end
def spec_FormatInstr.f (k : Nat) (a0_0 : Int) (a0_1 : Int) (a0_2 : Int) (a0_3 : Int) (a0_4 : Int) (a0_5 : ByteArray) : Option (ByteArray) := (spec_IsInstr.f k a0_0 a0_1 a0_2 a0_3 a0_4 a0_5).bind fun t142 => (if t142 = true then ((spec_OpName.f a0_0).bind fun t143 => ((spec_FormatInt.f k a0_1).bind fun t144 => (if 1 + t144.size ≤ 9223372036854775807 then ((spec_FormatInt.f k a0_2).bind fun t145 => (if 1 + t145.size ≤ 9223372036854775807 then (if a0_0 = 4 then (spec_FormatInstr.j0 k t143 ((⟨#[32]⟩ : ByteArray) ++ t144) ((⟨#[32]⟩ : ByteArray) ++ t145) a0_0 (a0_0 == 4) a0_0 a0_1 a0_2 a0_3 a0_4 a0_5) else (spec_FormatInstr.j0 k t143 ((⟨#[32]⟩ : ByteArray) ++ t144) ((⟨#[32]⟩ : ByteArray) ++ t145) a0_0 (a0_0 == 10) a0_0 a0_1 a0_2 a0_3 a0_4 a0_5)) else (none))) else (none)))) else (some (⟨#[]⟩ : ByteArray)))
theorem spec_FormatInstr.mono_l : ∀ k, (∀ y0 y1 y2 y3 y4 y5 y6, LeO (spec_FormatInstr.j1 k y0 y1 y2 y3 y4 y5 y6) (spec_FormatInstr.j1 (k + 1) y0 y1 y2 y3 y4 y5 y6)) ∧ (∀ y0 y1 y2 y3 y4 y5 y6 y7 y8 y9 y10, LeO (spec_FormatInstr.j0 k y0 y1 y2 y3 y4 y5 y6 y7 y8 y9 y10) (spec_FormatInstr.j0 (k + 1) y0 y1 y2 y3 y4 y5 y6 y7 y8 y9 y10))
  | 0 => ⟨fun _ _ _ _ _ _ _ r h => by simp [spec_FormatInstr.j1] at h, fun _ _ _ _ _ _ _ _ _ _ _ r h => by simp [spec_FormatInstr.j0] at h⟩
  | k + 1 => by
    obtain ⟨ih0, ih1⟩ := spec_FormatInstr.mono_l k
    refine ⟨?_, ?_⟩
    · intro y0 y1 y2 y3 y4 y5 y6
      unfold spec_FormatInstr.j1
      repeat' first
      | (with_reducible exact ih0 _ _ _ _ _ _ _)
      | (with_reducible exact ih1 _ _ _ _ _ _ _ _ _ _ _)
      | (with_reducible exact spec_FormatInt.mono _ _)
      | (with_reducible exact spec_IsInstr.mono _ _ _ _ _ _ _)
      | (with_reducible exact LeO.refl _)
      | (with_reducible exact LeO.none _)
      | (with_reducible refine LeO.ite ?_ ?_)
      | (with_reducible refine LeO.bind ?_ (fun _ => ?_))
      | exact ih0 _ _ _ _ _ _ _
      | exact ih1 _ _ _ _ _ _ _ _ _ _ _
      | exact spec_FormatInt.mono _ _
      | exact spec_IsInstr.mono _ _ _ _ _ _ _
      | exact LeO.none _
      | refine LeO.ite ?_ ?_
      | refine LeO.bind ?_ (fun _ => ?_)
    · intro y0 y1 y2 y3 y4 y5 y6 y7 y8 y9 y10
      unfold spec_FormatInstr.j0
      repeat' first
      | (with_reducible exact ih0 _ _ _ _ _ _ _)
      | (with_reducible exact ih1 _ _ _ _ _ _ _ _ _ _ _)
      | (with_reducible exact spec_FormatInt.mono _ _)
      | (with_reducible exact spec_IsInstr.mono _ _ _ _ _ _ _)
      | (with_reducible exact LeO.refl _)
      | (with_reducible exact LeO.none _)
      | (with_reducible refine LeO.ite ?_ ?_)
      | (with_reducible refine LeO.bind ?_ (fun _ => ?_))
      | exact ih0 _ _ _ _ _ _ _
      | exact ih1 _ _ _ _ _ _ _ _ _ _ _
      | exact spec_FormatInt.mono _ _
      | exact spec_IsInstr.mono _ _ _ _ _ _ _
      | exact LeO.none _
      | refine LeO.ite ?_ ?_
      | refine LeO.bind ?_ (fun _ => ?_)
theorem spec_FormatInstr.mono : ∀ a0 a1 a2 a3 a4 a5 k, LeO (spec_FormatInstr.f k a0 a1 a2 a3 a4 a5) (spec_FormatInstr.f (k + 1) a0 a1 a2 a3 a4 a5) := by
  intro a0 a1 a2 a3 a4 a5 k
  obtain ⟨ih0, ih1⟩ := spec_FormatInstr.mono_l k
  unfold spec_FormatInstr.f
  repeat' first
      | (with_reducible exact ih0 _ _ _ _ _ _ _)
      | (with_reducible exact ih1 _ _ _ _ _ _ _ _ _ _ _)
      | (with_reducible exact spec_FormatInt.mono _ _)
      | (with_reducible exact spec_IsInstr.mono _ _ _ _ _ _ _)
      | (with_reducible exact LeO.refl _)
      | (with_reducible exact LeO.none _)
      | (with_reducible refine LeO.ite ?_ ?_)
      | (with_reducible refine LeO.bind ?_ (fun _ => ?_))
      | exact ih0 _ _ _ _ _ _ _
      | exact ih1 _ _ _ _ _ _ _ _ _ _ _
      | exact spec_FormatInt.mono _ _
      | exact spec_IsInstr.mono _ _ _ _ _ _ _
      | exact LeO.none _
      | refine LeO.ite ?_ ?_
      | refine LeO.bind ?_ (fun _ => ?_)
set_option maxHeartbeats 8000000 in
set_option maxRecDepth 100000 in
theorem spec_FormatInstr.calls (k : Nat) (a0_0 : Int) (a0_1 : Int) (a0_2 : Int) (a0_3 : Int) (a0_4 : Int) (a0_5 : ByteArray) (r : ByteArray) (w : World) (h : spec_FormatInstr.f k a0_0 a0_1 a0_2 a0_3 a0_4 a0_5 = some r) :
    Calls Tryd.prog 22 #[.agg #[.int .i64 a0_0, .int .i64 a0_1, .int .i64 a0_2, .int .i64 a0_3, .int .i64 a0_4, .string a0_5]] w fun e w' => e = .returned (.string r) ∧ Below w.heap.size w w' := by
  have hu27 := Tryd.underlying27
  have HB := Aside0.mk (Below.refl w.heap.size w)
  have H : ((spec_IsInstr.f k a0_0 a0_1 a0_2 a0_3 a0_4 a0_5).bind fun t142 => (if t142 = true then ((spec_OpName.f a0_0).bind fun t143 => ((spec_FormatInt.f k a0_1).bind fun t144 => (if 1 + t144.size ≤ 9223372036854775807 then ((spec_FormatInt.f k a0_2).bind fun t145 => (if 1 + t145.size ≤ 9223372036854775807 then (if a0_0 = 4 then (spec_FormatInstr.j0 k t143 ((⟨#[32]⟩ : ByteArray) ++ t144) ((⟨#[32]⟩ : ByteArray) ++ t145) a0_0 (a0_0 == 4) a0_0 a0_1 a0_2 a0_3 a0_4 a0_5) else (spec_FormatInstr.j0 k t143 ((⟨#[32]⟩ : ByteArray) ++ t144) ((⟨#[32]⟩ : ByteArray) ++ t145) a0_0 (a0_0 == 10) a0_0 a0_1 a0_2 a0_3 a0_4 a0_5)) else (none))) else (none)))) else (some (⟨#[]⟩ : ByteArray)))) = some r := h
  clear h
  replace H := Option.bind_eq_some_iff.mp H
  obtain ⟨t142, A20, H⟩ := H
  replace H : (if t142 = true then ((spec_OpName.f a0_0).bind fun t143 => ((spec_FormatInt.f k a0_1).bind fun t144 => (if 1 + t144.size ≤ 9223372036854775807 then ((spec_FormatInt.f k a0_2).bind fun t145 => (if 1 + t145.size ≤ 9223372036854775807 then (if a0_0 = 4 then (spec_FormatInstr.j0 k t143 ((⟨#[32]⟩ : ByteArray) ++ t144) ((⟨#[32]⟩ : ByteArray) ++ t145) a0_0 (a0_0 == 4) a0_0 a0_1 a0_2 a0_3 a0_4 a0_5) else (spec_FormatInstr.j0 k t143 ((⟨#[32]⟩ : ByteArray) ++ t144) ((⟨#[32]⟩ : ByteArray) ++ t145) a0_0 (a0_0 == 10) a0_0 a0_1 a0_2 a0_3 a0_4 a0_5)) else (none))) else (none)))) else (some (⟨#[]⟩ : ByteArray))) = some r := H
  have A2 := Aside0.mk A20
  clear A20
  by_cases c3 : t142 = true
  · subst c3
    have H1 : ((spec_OpName.f a0_0).bind fun t143 => ((spec_FormatInt.f k a0_1).bind fun t144 => (if 1 + t144.size ≤ 9223372036854775807 then ((spec_FormatInt.f k a0_2).bind fun t145 => (if 1 + t145.size ≤ 9223372036854775807 then (if a0_0 = 4 then (spec_FormatInstr.j0 k t143 ((⟨#[32]⟩ : ByteArray) ++ t144) ((⟨#[32]⟩ : ByteArray) ++ t145) a0_0 (a0_0 == 4) a0_0 a0_1 a0_2 a0_3 a0_4 a0_5) else (spec_FormatInstr.j0 k t143 ((⟨#[32]⟩ : ByteArray) ++ t144) ((⟨#[32]⟩ : ByteArray) ++ t145) a0_0 (a0_0 == 10) a0_0 a0_1 a0_2 a0_3 a0_4 a0_5)) else (none))) else (none)))) = some r := by rw [if_pos rfl] at H; exact H
    clear H
    have H := H1
    clear H1
    replace H := Option.bind_eq_some_iff.mp H
    obtain ⟨t143, A40, H⟩ := H
    replace H : ((spec_FormatInt.f k a0_1).bind fun t144 => (if 1 + t144.size ≤ 9223372036854775807 then ((spec_FormatInt.f k a0_2).bind fun t145 => (if 1 + t145.size ≤ 9223372036854775807 then (if a0_0 = 4 then (spec_FormatInstr.j0 k t143 ((⟨#[32]⟩ : ByteArray) ++ t144) ((⟨#[32]⟩ : ByteArray) ++ t145) a0_0 (a0_0 == 4) a0_0 a0_1 a0_2 a0_3 a0_4 a0_5) else (spec_FormatInstr.j0 k t143 ((⟨#[32]⟩ : ByteArray) ++ t144) ((⟨#[32]⟩ : ByteArray) ++ t145) a0_0 (a0_0 == 10) a0_0 a0_1 a0_2 a0_3 a0_4 a0_5)) else (none))) else (none))) = some r := H
    have A4 := Aside0.mk A40
    clear A40
    replace H := Option.bind_eq_some_iff.mp H
    obtain ⟨t144, A50, H⟩ := H
    replace H : (if 1 + t144.size ≤ 9223372036854775807 then ((spec_FormatInt.f k a0_2).bind fun t145 => (if 1 + t145.size ≤ 9223372036854775807 then (if a0_0 = 4 then (spec_FormatInstr.j0 k t143 ((⟨#[32]⟩ : ByteArray) ++ t144) ((⟨#[32]⟩ : ByteArray) ++ t145) a0_0 (a0_0 == 4) a0_0 a0_1 a0_2 a0_3 a0_4 a0_5) else (spec_FormatInstr.j0 k t143 ((⟨#[32]⟩ : ByteArray) ++ t144) ((⟨#[32]⟩ : ByteArray) ++ t145) a0_0 (a0_0 == 10) a0_0 a0_1 a0_2 a0_3 a0_4 a0_5)) else (none))) else (none)) = some r := H
    have A5 := Aside0.mk A50
    clear A50
    by_cases c6 : 1 + t144.size ≤ 9223372036854775807
    · rw [if_pos c6] at H
      have c6b0 := eq_true c6
      have c6b1 : decide (1 + t144.size ≤ 9223372036854775807) = true := decide_eq_true c6
      try have c6b2 : (9223372036854775807 < 1 + t144.size) = False := eq_false (Nat.not_lt.2 c6)
      replace H := Option.bind_eq_some_iff.mp H
      obtain ⟨t145, A70, H⟩ := H
      replace H : (if 1 + t145.size ≤ 9223372036854775807 then (if a0_0 = 4 then (spec_FormatInstr.j0 k t143 ((⟨#[32]⟩ : ByteArray) ++ t144) ((⟨#[32]⟩ : ByteArray) ++ t145) a0_0 (a0_0 == 4) a0_0 a0_1 a0_2 a0_3 a0_4 a0_5) else (spec_FormatInstr.j0 k t143 ((⟨#[32]⟩ : ByteArray) ++ t144) ((⟨#[32]⟩ : ByteArray) ++ t145) a0_0 (a0_0 == 10) a0_0 a0_1 a0_2 a0_3 a0_4 a0_5)) else (none)) = some r := H
      have A7 := Aside0.mk A70
      clear A70
      by_cases c8 : 1 + t145.size ≤ 9223372036854775807
      · rw [if_pos c8] at H
        have c8b0 := eq_true c8
        have c8b1 : decide (1 + t145.size ≤ 9223372036854775807) = true := decide_eq_true c8
        try have c8b2 : (9223372036854775807 < 1 + t145.size) = False := eq_false (Nat.not_lt.2 c8)
        have HC9 := Aside0.mk H
        clear H
        go_enter Tryd.func22, Tryd.ntmps22
        go_upto_block 0 with (first | ((with_reducible refine gate_dst (N := 1) rfl ?_); refine box_event ?hg (N := 1) ?hd (cs := #[.int .i64 a0_0, .int .i64 a0_1, .int .i64 a0_2, .int .i64 a0_3, .int .i64 a0_4, .string a0_5]) (t := 27) ?hr ?_; (case hd => rfl); (case hg => rfl); (case hr => first | (go_simp; done) | (go_simp; rfl)); intro gb141 hg w10 hbox hb; have n0_ := Aside0.mk (below_step (by repeat (first | (with_reducible first | exact HB.out | apply below_alloc | apply pw_below_drewN | apply below_drew1) | exact HB.out)) hb); have n1_ := Aside0.mk (hbox); have n2_ := Aside0.mk ((by rw [hg]; exact (below_size (by repeat (first | (with_reducible first | exact HB.out | apply below_alloc | apply pw_below_drewN | apply below_drew1) | exact HB.out))) : w.heap.size ≤ gb141)); have n3_ := Aside0.mk ((by rw [hg]; exact (below_size (by repeat (first | (with_reducible first | exact HB.out | apply below_alloc | apply pw_below_drewN | apply below_drew1) | exact HB.out))) : w.heap.size ≤ gb141)); clear HB; have HB := n0_; have BK141 := n1_; have GW141 := n2_; have GE141 := n3_; clear n0_ n1_ n2_ n3_; clear hb hbox hg; have hcz11_0 : w10.cell? ⟨gb141, 0, none⟩ = some (.int .i64 a0_0) := (blk_cell BK141.out 0).trans rfl; have hcz11_1 : w10.cell? ⟨gb141, 1, none⟩ = some (.int .i64 a0_1) := (blk_cell BK141.out 1).trans rfl; have hcz11_2 : w10.cell? ⟨gb141, 2, none⟩ = some (.int .i64 a0_2) := (blk_cell BK141.out 2).trans rfl; have hcz11_3 : w10.cell? ⟨gb141, 3, none⟩ = some (.int .i64 a0_3) := (blk_cell BK141.out 3).trans rfl; have hcz11_4 : w10.cell? ⟨gb141, 4, none⟩ = some (.int .i64 a0_4) := (blk_cell BK141.out 4).trans rfl; have hcz11_5 : w10.cell? ⟨gb141, 5, none⟩ = some (.string a0_5) := (blk_cell BK141.out 5).trans rfl; have hfz11_0 := blk_frozen BK141.out 0; have hfz11_1 := blk_frozen BK141.out 1; have hfz11_2 := blk_frozen BK141.out 2; have hfz11_3 := blk_frozen BK141.out 3; have hfz11_4 := blk_frozen BK141.out 4; have hfz11_5 := blk_frozen BK141.out 5) | ((with_reducible refine gate_callee (f := 17) rfl ?_); refine goesL_ (some 7) rfl rfl Tryd.func17 (by kernel_rfl) rfl #[.agg #[.int .i64 a0_0, .int .i64 a0_1, .int .i64 a0_2, .int .i64 a0_3, .int .i64 a0_4, .string a0_5]] rfl (by (try simp only [List.map_toArray, List.map_cons, List.map_nil]); first | done | rfl | (simp only [List.length_drop, List.length_take]; rfl)) ?_; (with_reducible refine (spec_IsInstr.calls k a0_0 a0_1 a0_2 a0_3 a0_4 a0_5 true _ A2.out).mono ?_); rintro e w12 ⟨rfl, hb⟩; refine ⟨_, rfl, ?_⟩; have n0_ := Aside0.mk (blk_below (g := gb141) (o := .cells #[.int .i64 a0_0, .int .i64 a0_1, .int .i64 a0_2, .int .i64 a0_3, .int .i64 a0_4, .string a0_5] 27 (0, 0)) (by (with_reducible repeat (first | refine blk_drewN ?_ _ | refine blk_drew ?_ | refine blk_alloc ?_ _)); exact BK141.out) hb); have n1_ := Aside0.mk (below_step (by repeat (first | (with_reducible first | exact HB.out | apply below_alloc | apply pw_below_drewN | apply below_drew1 | refine below_set ?_ GE141.out) | exact HB.out)) hb); clear BK141; clear HB; have BK141 := n0_; have HB := n1_; clear n0_ n1_; (try clear hb); (try clear hb2); (try clear hk); (try clear hi); have hcz13_0 : w12.cell? ⟨gb141, 0, none⟩ = some (.int .i64 a0_0) := (blk_cell BK141.out 0).trans rfl; have hcz13_1 : w12.cell? ⟨gb141, 1, none⟩ = some (.int .i64 a0_1) := (blk_cell BK141.out 1).trans rfl; have hcz13_2 : w12.cell? ⟨gb141, 2, none⟩ = some (.int .i64 a0_2) := (blk_cell BK141.out 2).trans rfl; have hcz13_3 : w12.cell? ⟨gb141, 3, none⟩ = some (.int .i64 a0_3) := (blk_cell BK141.out 3).trans rfl; have hcz13_4 : w12.cell? ⟨gb141, 4, none⟩ = some (.int .i64 a0_4) := (blk_cell BK141.out 4).trans rfl; have hcz13_5 : w12.cell? ⟨gb141, 5, none⟩ = some (.string a0_5) := (blk_cell BK141.out 5).trans rfl; have hfz13_0 := blk_frozen BK141.out 0; have hfz13_1 := blk_frozen BK141.out 1; have hfz13_2 := blk_frozen BK141.out 2; have hfz13_3 := blk_frozen BK141.out 3; have hfz13_4 := blk_frozen BK141.out 4; have hfz13_5 := blk_frozen BK141.out 5) | ((with_reducible refine gate_callee (f := 9) rfl ?_); refine goesL_ (some 11) rfl rfl Tryd.func9 (by kernel_rfl) rfl #[.int .i64 a0_0] rfl (by (try simp only [List.map_toArray, List.map_cons, List.map_nil]); first | done | rfl | (simp only [List.length_drop, List.length_take]; rfl)) ?_; (with_reducible refine (spec_OpName.calls a0_0 t143 _ A4.out).mono ?_); rintro e w14 ⟨rfl, hb⟩; refine ⟨_, rfl, ?_⟩; have n0_ := Aside0.mk (blk_below (g := gb141) (o := .cells #[.int .i64 a0_0, .int .i64 a0_1, .int .i64 a0_2, .int .i64 a0_3, .int .i64 a0_4, .string a0_5] 27 (0, 0)) (by (with_reducible repeat (first | refine blk_drewN ?_ _ | refine blk_drew ?_ | refine blk_alloc ?_ _)); exact BK141.out) hb); have n1_ := Aside0.mk (below_step (by repeat (first | (with_reducible first | exact HB.out | apply below_alloc | apply pw_below_drewN | apply below_drew1 | refine below_set ?_ GE141.out) | exact HB.out)) hb); clear BK141; clear HB; have BK141 := n0_; have HB := n1_; clear n0_ n1_; (try clear hb); (try clear hb2); (try clear hk); (try clear hi); have hcz15_0 : w14.cell? ⟨gb141, 0, none⟩ = some (.int .i64 a0_0) := (blk_cell BK141.out 0).trans rfl; have hcz15_1 : w14.cell? ⟨gb141, 1, none⟩ = some (.int .i64 a0_1) := (blk_cell BK141.out 1).trans rfl; have hcz15_2 : w14.cell? ⟨gb141, 2, none⟩ = some (.int .i64 a0_2) := (blk_cell BK141.out 2).trans rfl; have hcz15_3 : w14.cell? ⟨gb141, 3, none⟩ = some (.int .i64 a0_3) := (blk_cell BK141.out 3).trans rfl; have hcz15_4 : w14.cell? ⟨gb141, 4, none⟩ = some (.int .i64 a0_4) := (blk_cell BK141.out 4).trans rfl; have hcz15_5 : w14.cell? ⟨gb141, 5, none⟩ = some (.string a0_5) := (blk_cell BK141.out 5).trans rfl; have hfz15_0 := blk_frozen BK141.out 0; have hfz15_1 := blk_frozen BK141.out 1; have hfz15_2 := blk_frozen BK141.out 2; have hfz15_3 := blk_frozen BK141.out 3; have hfz15_4 := blk_frozen BK141.out 4; have hfz15_5 := blk_frozen BK141.out 5) | ((with_reducible refine gate_callee (f := 48) rfl ?_); refine goesL_ (some 14) rfl rfl Tryd.func48 (by kernel_rfl) rfl #[.int .i64 a0_1] rfl (by (try simp only [List.map_toArray, List.map_cons, List.map_nil]); first | done | rfl | (simp only [List.length_drop, List.length_take]; rfl)) ?_; (with_reducible refine (spec_FormatInt.calls k a0_1 t144 _ A5.out).mono ?_); rintro e w16 ⟨rfl, hb⟩; refine ⟨_, rfl, ?_⟩; have n0_ := Aside0.mk (blk_below (g := gb141) (o := .cells #[.int .i64 a0_0, .int .i64 a0_1, .int .i64 a0_2, .int .i64 a0_3, .int .i64 a0_4, .string a0_5] 27 (0, 0)) (by (with_reducible repeat (first | refine blk_drewN ?_ _ | refine blk_drew ?_ | refine blk_alloc ?_ _)); exact BK141.out) hb); have n1_ := Aside0.mk (below_step (by repeat (first | (with_reducible first | exact HB.out | apply below_alloc | apply pw_below_drewN | apply below_drew1 | refine below_set ?_ GE141.out) | exact HB.out)) hb); clear BK141; clear HB; have BK141 := n0_; have HB := n1_; clear n0_ n1_; (try clear hb); (try clear hb2); (try clear hk); (try clear hi); have hcz17_0 : w16.cell? ⟨gb141, 0, none⟩ = some (.int .i64 a0_0) := (blk_cell BK141.out 0).trans rfl; have hcz17_1 : w16.cell? ⟨gb141, 1, none⟩ = some (.int .i64 a0_1) := (blk_cell BK141.out 1).trans rfl; have hcz17_2 : w16.cell? ⟨gb141, 2, none⟩ = some (.int .i64 a0_2) := (blk_cell BK141.out 2).trans rfl; have hcz17_3 : w16.cell? ⟨gb141, 3, none⟩ = some (.int .i64 a0_3) := (blk_cell BK141.out 3).trans rfl; have hcz17_4 : w16.cell? ⟨gb141, 4, none⟩ = some (.int .i64 a0_4) := (blk_cell BK141.out 4).trans rfl; have hcz17_5 : w16.cell? ⟨gb141, 5, none⟩ = some (.string a0_5) := (blk_cell BK141.out 5).trans rfl; have hfz17_0 := blk_frozen BK141.out 0; have hfz17_1 := blk_frozen BK141.out 1; have hfz17_2 := blk_frozen BK141.out 2; have hfz17_3 := blk_frozen BK141.out 3; have hfz17_4 := blk_frozen BK141.out 4; have hfz17_5 := blk_frozen BK141.out 5) | ((with_reducible refine gate_callee (f := 48) rfl ?_); refine goesL_ (some 18) rfl rfl Tryd.func48 (by kernel_rfl) rfl #[.int .i64 a0_2] rfl (by (try simp only [List.map_toArray, List.map_cons, List.map_nil]); first | done | rfl | (simp only [List.length_drop, List.length_take]; rfl)) ?_; (with_reducible refine (spec_FormatInt.calls k a0_2 t145 _ A7.out).mono ?_); rintro e w18 ⟨rfl, hb⟩; refine ⟨_, rfl, ?_⟩; have n0_ := Aside0.mk (blk_below (g := gb141) (o := .cells #[.int .i64 a0_0, .int .i64 a0_1, .int .i64 a0_2, .int .i64 a0_3, .int .i64 a0_4, .string a0_5] 27 (0, 0)) (by (with_reducible repeat (first | refine blk_drewN ?_ _ | refine blk_drew ?_ | refine blk_alloc ?_ _)); exact BK141.out) hb); have n1_ := Aside0.mk (below_step (by repeat (first | (with_reducible first | exact HB.out | apply below_alloc | apply pw_below_drewN | apply below_drew1 | refine below_set ?_ GE141.out) | exact HB.out)) hb); clear BK141; clear HB; have BK141 := n0_; have HB := n1_; clear n0_ n1_; (try clear hb); (try clear hb2); (try clear hk); (try clear hi); have hcz19_0 : w18.cell? ⟨gb141, 0, none⟩ = some (.int .i64 a0_0) := (blk_cell BK141.out 0).trans rfl; have hcz19_1 : w18.cell? ⟨gb141, 1, none⟩ = some (.int .i64 a0_1) := (blk_cell BK141.out 1).trans rfl; have hcz19_2 : w18.cell? ⟨gb141, 2, none⟩ = some (.int .i64 a0_2) := (blk_cell BK141.out 2).trans rfl; have hcz19_3 : w18.cell? ⟨gb141, 3, none⟩ = some (.int .i64 a0_3) := (blk_cell BK141.out 3).trans rfl; have hcz19_4 : w18.cell? ⟨gb141, 4, none⟩ = some (.int .i64 a0_4) := (blk_cell BK141.out 4).trans rfl; have hcz19_5 : w18.cell? ⟨gb141, 5, none⟩ = some (.string a0_5) := (blk_cell BK141.out 5).trans rfl; have hfz19_0 := blk_frozen BK141.out 0; have hfz19_1 := blk_frozen BK141.out 1; have hfz19_2 := blk_frozen BK141.out 2; have hfz19_3 := blk_frozen BK141.out 3; have hfz19_4 := blk_frozen BK141.out 4; have hfz19_5 := blk_frozen BK141.out 5))
        (try simp only [Act.put, List.setIfInBounds_toArray, List.set_cons_zero, List.set_cons_succ])
        go_cut [3] (fun v3 wc => ∃ (kq : Nat) (x3_8 : ByteArray), v3 = .string x3_8 ∧ Aside0 (spec_FormatInstr.j1 kq x3_8 a0_0 a0_1 a0_2 a0_3 a0_4 a0_5 = some r) ∧ Aside0 (kq ≤ k) ∧ Aside0 (wc.heap[gb141]? = some (.cells #[.int .i64 a0_0, .int .i64 a0_1, .int .i64 a0_2, .int .i64 a0_3, .int .i64 a0_4, .string a0_5] 27 (0, 0))) ∧ Aside0 (Below w.heap.size w wc))
        case first =>
          have H := HC9.out
          clear HC9
          have HC20 := Aside0.mk H
          clear H
          go_upto_if 27 with (fail)
          go_cut [27] (fun v27 wc => ∃ (kq : Nat) (x27_19 : Bool), v27 = .bool x27_19 ∧ Aside0 (spec_FormatInstr.j0 kq t143 ((⟨#[32]⟩ : ByteArray) ++ t144) ((⟨#[32]⟩ : ByteArray) ++ t145) a0_0 x27_19 a0_0 a0_1 a0_2 a0_3 a0_4 a0_5 = some r) ∧ Aside0 (kq ≤ k) ∧ Aside0 (wc.heap[gb141]? = some (.cells #[.int .i64 a0_0, .int .i64 a0_1, .int .i64 a0_2, .int .i64 a0_3, .int .i64 a0_4, .string a0_5] 27 (0, 0))) ∧ Aside0 (Below w.heap.size w wc))
          case first =>
            have H := HC20.out
            clear HC20
            by_cases c21 : a0_0 = 4
            · rw [if_pos c21] at H
              have c21b0 : (a0_0 == 4) = true := beq_iff_eq.mpr c21
              have c21b1 : (a0_0 != 4) = false := bne_eq_false_iff_eq.mpr c21
              clear c21
              (first | rw [c21b0] | (simp only [i64_w, i32_w]; rw [c21b0]) | skip)
              have H' := Aside0.mk H
              clear H
              go_wp2
              go_meet
              case rel => exact ⟨_, ((a0_0 == 4)), (by first | rfl | (simp; done) | (simp [*]; done)), H', ⟨by first | omega | exact Nat.le_refl _⟩, ⟨by (with_reducible repeat (first | refine blk_drewN ?_ _ | refine blk_drew ?_ | refine blk_alloc ?_ _)); exact BK141.out⟩, ⟨by repeat (first | (with_reducible first | exact HB.out | apply below_alloc | apply pw_below_drewN | apply below_drew1 | refine below_set ?_ GE141.out) | exact HB.out)⟩⟩
            · rw [if_neg c21] at H
              have c21b0 : (a0_0 == 4) = false := beq_eq_false_iff_ne.mpr c21
              have c21b1 : (a0_0 != 4) = true := bne_iff_ne.mpr c21
              (first | rw [c21b0] | (simp only [i64_w, i32_w]; rw [c21b0]) | skip)
              have H' := Aside0.mk H
              clear H
              go_wp2
              go_meet
              case rel => exact ⟨_, ((a0_0 == 10)), (by first | rfl | (simp; done) | (simp [*]; done)), H', ⟨by first | omega | exact Nat.le_refl _⟩, ⟨by (with_reducible repeat (first | refine blk_drewN ?_ _ | refine blk_drew ?_ | refine blk_alloc ?_ _)); exact BK141.out⟩, ⟨by repeat (first | (with_reducible first | exact HB.out | apply below_alloc | apply pw_below_drewN | apply below_drew1 | refine below_set ?_ GE141.out) | exact HB.out)⟩⟩
          case rest =>
            clear HC20
            try clear c1
            try clear c2
            try clear p2
            try clear c3
            try clear c4
            try clear c6
            try clear c6b0
            try clear c6b1
            try clear c6b2
            try clear c8
            try clear c8b0
            try clear c8b1
            try clear c8b2
            try clear c9
            try clear c17
            try clear c21
            try clear c21b0
            try clear c21b1
            try clear hcz11_0
            try clear hcz11_1
            try clear hcz11_2
            try clear hcz11_3
            try clear hcz11_4
            try clear hcz11_5
            try clear hcz13_0
            try clear hcz13_1
            try clear hcz13_2
            try clear hcz13_3
            try clear hcz13_4
            try clear hcz13_5
            try clear hcz15_0
            try clear hcz15_1
            try clear hcz15_2
            try clear hcz15_3
            try clear hcz15_4
            try clear hcz15_5
            try clear hcz17_0
            try clear hcz17_1
            try clear hcz17_2
            try clear hcz17_3
            try clear hcz17_4
            try clear hcz17_5
            try clear hcz19_0
            try clear hcz19_1
            try clear hcz19_2
            try clear hcz19_3
            try clear hcz19_4
            try clear hcz19_5
            try clear hfz11_0
            try clear hfz11_1
            try clear hfz11_2
            try clear hfz11_3
            try clear hfz11_4
            try clear hfz11_5
            try clear hfz13_0
            try clear hfz13_1
            try clear hfz13_2
            try clear hfz13_3
            try clear hfz13_4
            try clear hfz13_5
            try clear hfz15_0
            try clear hfz15_1
            try clear hfz15_2
            try clear hfz15_3
            try clear hfz15_4
            try clear hfz15_5
            try clear hfz17_0
            try clear hfz17_1
            try clear hfz17_2
            try clear hfz17_3
            try clear hfz17_4
            try clear hfz17_5
            try clear hfz19_0
            try clear hfz19_1
            try clear hfz19_2
            try clear hfz19_3
            try clear hfz19_4
            try clear hfz19_5
            obtain ⟨kq, x27_19, rfl, HA, HJ19, BK141, HB⟩ := hcut
            cases kq with
            | zero => exact absurd HA.out (by simp [spec_FormatInstr.j0])
            | succ kj19 =>
              have H := HA.out
              clear HA
              simp only [spec_FormatInstr.j0] at H
              by_cases c22 : x27_19 = true
              · subst c22
                have H1 : (if t143.size + ((⟨#[32]⟩ : ByteArray) ++ t144).size ≤ 9223372036854775807 then (some (t143 ++ ((⟨#[32]⟩ : ByteArray) ++ t144))) else (none)) = some r := by rw [if_pos rfl] at H; exact H
                clear H
                have H := H1
                clear H1
                by_cases c23 : t143.size + ((⟨#[32]⟩ : ByteArray) ++ t144).size ≤ 9223372036854775807
                · rw [if_pos c23] at H
                  have c23b0 := eq_true c23
                  have c23b1 : decide (t143.size + ((⟨#[32]⟩ : ByteArray) ++ t144).size ≤ 9223372036854775807) = true := decide_eq_true c23
                  have c23n := c23
                  simp only [ByteArray.size_append, show (⟨#[32]⟩ : ByteArray).size = 1 from rfl] at c23n
                  have c23n0 : (9223372036854775807 < 1 + t144.size) = False := eq_false (by omega)
                  have c23n1 : (9223372036854775807 < t143.size + (1 + t144.size)) = False := eq_false (by omega)
                  try have c23b2 : (9223372036854775807 < t143.size + ((⟨#[32]⟩ : ByteArray) ++ t144).size) = False := eq_false (Nat.not_lt.2 c23)
                  obtain rfl := Option.some.inj H
                  go_wp2
                  go_ret
                  exact ⟨by first | rfl | (simp [errW_none, errW_some] <;> rfl) | (simp [*, errW_none, errW_some] <;> rfl), by repeat (first | (with_reducible first | exact HB.out | apply below_alloc | apply pw_below_drewN | apply below_drew1 | refine below_set ?_ GE141.out) | exact HB.out)⟩
                · rw [if_neg c23] at H
                  exact absurd H (by simp)
              · replace c22 := Bool.eq_false_iff.mpr c22
                subst c22
                have H1 : (if a0_0 = 5 then (if t143.size + ((⟨#[32]⟩ : ByteArray) ++ t144).size ≤ 9223372036854775807 then (if (t143 ++ ((⟨#[32]⟩ : ByteArray) ++ t144)).size + ((⟨#[32]⟩ : ByteArray) ++ t145).size ≤ 9223372036854775807 then (if ((t143 ++ ((⟨#[32]⟩ : ByteArray) ++ t144)) ++ ((⟨#[32]⟩ : ByteArray) ++ t145)).size + 1 ≤ 9223372036854775807 then ((spec_FormatInt.f kj19 a0_3).bind fun t146 => (if (((t143 ++ ((⟨#[32]⟩ : ByteArray) ++ t144)) ++ ((⟨#[32]⟩ : ByteArray) ++ t145)) ++ (⟨#[32]⟩ : ByteArray)).size + t146.size ≤ 9223372036854775807 then (some ((((t143 ++ ((⟨#[32]⟩ : ByteArray) ++ t144)) ++ ((⟨#[32]⟩ : ByteArray) ++ t145)) ++ (⟨#[32]⟩ : ByteArray)) ++ t146)) else (none))) else (none)) else (none)) else (none)) else (if a0_0 = 6 then (if t143.size + ((⟨#[32]⟩ : ByteArray) ++ t144).size ≤ 9223372036854775807 then (if (t143 ++ ((⟨#[32]⟩ : ByteArray) ++ t144)).size + ((⟨#[32]⟩ : ByteArray) ++ t145).size ≤ 9223372036854775807 then (if ((t143 ++ ((⟨#[32]⟩ : ByteArray) ++ t144)) ++ ((⟨#[32]⟩ : ByteArray) ++ t145)).size + 1 ≤ 9223372036854775807 then (if (((t143 ++ ((⟨#[32]⟩ : ByteArray) ++ t144)) ++ ((⟨#[32]⟩ : ByteArray) ++ t145)) ++ (⟨#[32]⟩ : ByteArray)).size + a0_5.size ≤ 9223372036854775807 then (spec_FormatInstr.j1 kj19 ((((t143 ++ ((⟨#[32]⟩ : ByteArray) ++ t144)) ++ ((⟨#[32]⟩ : ByteArray) ++ t145)) ++ (⟨#[32]⟩ : ByteArray)) ++ a0_5) a0_0 a0_1 a0_2 a0_3 a0_4 a0_5) else (none)) else (none)) else (none)) else (none)) else (if a0_0 = 7 then (if t143.size + ((⟨#[32]⟩ : ByteArray) ++ t144).size ≤ 9223372036854775807 then (if (t143 ++ ((⟨#[32]⟩ : ByteArray) ++ t144)).size + 1 ≤ 9223372036854775807 then (if ((t143 ++ ((⟨#[32]⟩ : ByteArray) ++ t144)) ++ (⟨#[32]⟩ : ByteArray)).size + a0_5.size ≤ 9223372036854775807 then (spec_FormatInstr.j1 kj19 (((t143 ++ ((⟨#[32]⟩ : ByteArray) ++ t144)) ++ (⟨#[32]⟩ : ByteArray)) ++ a0_5) a0_0 a0_1 a0_2 a0_3 a0_4 a0_5) else (none)) else (none)) else (none)) else (if t143.size + ((⟨#[32]⟩ : ByteArray) ++ t144).size ≤ 9223372036854775807 then (if (t143 ++ ((⟨#[32]⟩ : ByteArray) ++ t144)).size + ((⟨#[32]⟩ : ByteArray) ++ t145).size ≤ 9223372036854775807 then (some ((t143 ++ ((⟨#[32]⟩ : ByteArray) ++ t144)) ++ ((⟨#[32]⟩ : ByteArray) ++ t145))) else (none)) else (none))))) = some r := by rw [if_neg (show ¬ (false = true) by decide)] at H; exact H
                clear H
                have H := H1
                clear H1
                by_cases c24 : a0_0 = 5
                · rw [if_pos c24] at H
                  have c24b0 : (a0_0 == 5) = true := beq_iff_eq.mpr c24
                  have c24b1 : (a0_0 != 5) = false := bne_eq_false_iff_eq.mpr c24
                  clear c24
                  by_cases c25 : t143.size + ((⟨#[32]⟩ : ByteArray) ++ t144).size ≤ 9223372036854775807
                  · rw [if_pos c25] at H
                    have c25b0 := eq_true c25
                    have c25b1 : decide (t143.size + ((⟨#[32]⟩ : ByteArray) ++ t144).size ≤ 9223372036854775807) = true := decide_eq_true c25
                    have c25n := c25
                    simp only [ByteArray.size_append, show (⟨#[32]⟩ : ByteArray).size = 1 from rfl] at c25n
                    have c25n0 : (9223372036854775807 < 1 + t144.size) = False := eq_false (by omega)
                    have c25n1 : (9223372036854775807 < t143.size + (1 + t144.size)) = False := eq_false (by omega)
                    try have c25b2 : (9223372036854775807 < t143.size + ((⟨#[32]⟩ : ByteArray) ++ t144).size) = False := eq_false (Nat.not_lt.2 c25)
                    by_cases c26 : (t143 ++ ((⟨#[32]⟩ : ByteArray) ++ t144)).size + ((⟨#[32]⟩ : ByteArray) ++ t145).size ≤ 9223372036854775807
                    · rw [if_pos c26] at H
                      have c26b0 := eq_true c26
                      have c26b1 : decide ((t143 ++ ((⟨#[32]⟩ : ByteArray) ++ t144)).size + ((⟨#[32]⟩ : ByteArray) ++ t145).size ≤ 9223372036854775807) = true := decide_eq_true c26
                      have c26n := c26
                      simp only [ByteArray.size_append, show (⟨#[32]⟩ : ByteArray).size = 1 from rfl] at c26n
                      have c26n0 : (9223372036854775807 < 1 + t144.size) = False := eq_false (by omega)
                      have c26n1 : (9223372036854775807 < t143.size + (1 + t144.size)) = False := eq_false (by omega)
                      have c26n2 : (9223372036854775807 < 1 + t145.size) = False := eq_false (by omega)
                      have c26n3 : (9223372036854775807 < (t143.size + (1 + t144.size)) + (1 + t145.size)) = False := eq_false (by omega)
                      try have c26b2 : (9223372036854775807 < (t143 ++ ((⟨#[32]⟩ : ByteArray) ++ t144)).size + ((⟨#[32]⟩ : ByteArray) ++ t145).size) = False := eq_false (Nat.not_lt.2 c26)
                      by_cases c27 : ((t143 ++ ((⟨#[32]⟩ : ByteArray) ++ t144)) ++ ((⟨#[32]⟩ : ByteArray) ++ t145)).size + 1 ≤ 9223372036854775807
                      · rw [if_pos c27] at H
                        have c27b0 := eq_true c27
                        have c27b1 : decide (((t143 ++ ((⟨#[32]⟩ : ByteArray) ++ t144)) ++ ((⟨#[32]⟩ : ByteArray) ++ t145)).size + 1 ≤ 9223372036854775807) = true := decide_eq_true c27
                        have c27n := c27
                        simp only [ByteArray.size_append, show (⟨#[32]⟩ : ByteArray).size = 1 from rfl] at c27n
                        have c27n0 : (9223372036854775807 < 1 + t144.size) = False := eq_false (by omega)
                        have c27n1 : (9223372036854775807 < t143.size + (1 + t144.size)) = False := eq_false (by omega)
                        have c27n2 : (9223372036854775807 < 1 + t145.size) = False := eq_false (by omega)
                        have c27n3 : (9223372036854775807 < (t143.size + (1 + t144.size)) + (1 + t145.size)) = False := eq_false (by omega)
                        have c27n4 : (9223372036854775807 < ((t143.size + (1 + t144.size)) + (1 + t145.size)) + 1) = False := eq_false (by omega)
                        try have c27b2 : (9223372036854775807 < ((t143 ++ ((⟨#[32]⟩ : ByteArray) ++ t144)) ++ ((⟨#[32]⟩ : ByteArray) ++ t145)).size + 1) = False := eq_false (Nat.not_lt.2 c27)
                        replace H := Option.bind_eq_some_iff.mp H
                        obtain ⟨t146, A280, H⟩ := H
                        replace H : (if (((t143 ++ ((⟨#[32]⟩ : ByteArray) ++ t144)) ++ ((⟨#[32]⟩ : ByteArray) ++ t145)) ++ (⟨#[32]⟩ : ByteArray)).size + t146.size ≤ 9223372036854775807 then (some ((((t143 ++ ((⟨#[32]⟩ : ByteArray) ++ t144)) ++ ((⟨#[32]⟩ : ByteArray) ++ t145)) ++ (⟨#[32]⟩ : ByteArray)) ++ t146)) else (none)) = some r := H
                        have A28 := Aside0.mk A280
                        clear A280
                        by_cases c29 : (((t143 ++ ((⟨#[32]⟩ : ByteArray) ++ t144)) ++ ((⟨#[32]⟩ : ByteArray) ++ t145)) ++ (⟨#[32]⟩ : ByteArray)).size + t146.size ≤ 9223372036854775807
                        · rw [if_pos c29] at H
                          have c29b0 := eq_true c29
                          have c29b1 : decide ((((t143 ++ ((⟨#[32]⟩ : ByteArray) ++ t144)) ++ ((⟨#[32]⟩ : ByteArray) ++ t145)) ++ (⟨#[32]⟩ : ByteArray)).size + t146.size ≤ 9223372036854775807) = true := decide_eq_true c29
                          have c29n := c29
                          simp only [ByteArray.size_append, show (⟨#[32]⟩ : ByteArray).size = 1 from rfl] at c29n
                          have c29n0 : (9223372036854775807 < 1 + t144.size) = False := eq_false (by omega)
                          have c29n1 : (9223372036854775807 < t143.size + (1 + t144.size)) = False := eq_false (by omega)
                          have c29n2 : (9223372036854775807 < 1 + t145.size) = False := eq_false (by omega)
                          have c29n3 : (9223372036854775807 < (t143.size + (1 + t144.size)) + (1 + t145.size)) = False := eq_false (by omega)
                          have c29n4 : (9223372036854775807 < ((t143.size + (1 + t144.size)) + (1 + t145.size)) + 1) = False := eq_false (by omega)
                          have c29n5 : (9223372036854775807 < (((t143.size + (1 + t144.size)) + (1 + t145.size)) + 1) + t146.size) = False := eq_false (by omega)
                          try have c29b2 : (9223372036854775807 < (((t143 ++ ((⟨#[32]⟩ : ByteArray) ++ t144)) ++ ((⟨#[32]⟩ : ByteArray) ++ t145)) ++ (⟨#[32]⟩ : ByteArray)).size + t146.size) = False := eq_false (Nat.not_lt.2 c29)
                          obtain rfl := Option.some.inj H
                          have hcz30_0 : wc.cell? ⟨gb141, 0, none⟩ = some (.int .i64 a0_0) := (blk_cell BK141.out 0).trans rfl
                          have hcz30_1 : wc.cell? ⟨gb141, 1, none⟩ = some (.int .i64 a0_1) := (blk_cell BK141.out 1).trans rfl
                          have hcz30_2 : wc.cell? ⟨gb141, 2, none⟩ = some (.int .i64 a0_2) := (blk_cell BK141.out 2).trans rfl
                          have hcz30_3 : wc.cell? ⟨gb141, 3, none⟩ = some (.int .i64 a0_3) := (blk_cell BK141.out 3).trans rfl
                          have hcz30_4 : wc.cell? ⟨gb141, 4, none⟩ = some (.int .i64 a0_4) := (blk_cell BK141.out 4).trans rfl
                          have hcz30_5 : wc.cell? ⟨gb141, 5, none⟩ = some (.string a0_5) := (blk_cell BK141.out 5).trans rfl
                          have hfz30_0 := blk_frozen BK141.out 0
                          have hfz30_1 := blk_frozen BK141.out 1
                          have hfz30_2 := blk_frozen BK141.out 2
                          have hfz30_3 := blk_frozen BK141.out 3
                          have hfz30_4 := blk_frozen BK141.out 4
                          have hfz30_5 := blk_frozen BK141.out 5
                          go_wp2_with (first | ((with_reducible refine gate_callee (f := 48) rfl ?_); refine goesL_ (some 43) rfl rfl Tryd.func48 (by kernel_rfl) rfl #[.int .i64 a0_3] rfl (by (try simp only [List.map_toArray, List.map_cons, List.map_nil]); first | done | rfl | (simp only [List.length_drop, List.length_take]; rfl)) ?_; (with_reducible refine (spec_FormatInt.calls kj19 a0_3 t146 _ A28.out).mono ?_); rintro e w31 ⟨rfl, hb⟩; refine ⟨_, rfl, ?_⟩; have n0_ := Aside0.mk (blk_below (g := gb141) (o := .cells #[.int .i64 a0_0, .int .i64 a0_1, .int .i64 a0_2, .int .i64 a0_3, .int .i64 a0_4, .string a0_5] 27 (0, 0)) (by (with_reducible repeat (first | refine blk_drewN ?_ _ | refine blk_drew ?_ | refine blk_alloc ?_ _)); exact BK141.out) hb); have n1_ := Aside0.mk (below_step (by repeat (first | (with_reducible first | exact HB.out | apply below_alloc | apply pw_below_drewN | apply below_drew1 | refine below_set ?_ GE141.out) | exact HB.out)) hb); clear BK141; clear HB; have BK141 := n0_; have HB := n1_; clear n0_ n1_; (try clear hb); (try clear hb2); (try clear hk); (try clear hi)))
                          go_ret
                          exact ⟨by first | rfl | (simp [errW_none, errW_some] <;> rfl) | (simp [*, errW_none, errW_some] <;> rfl), by repeat (first | (with_reducible first | exact HB.out | apply below_alloc | apply pw_below_drewN | apply below_drew1 | refine below_set ?_ GE141.out) | exact HB.out)⟩
                        · rw [if_neg c29] at H
                          exact absurd H (by simp)
                      · rw [if_neg c27] at H
                        exact absurd H (by simp)
                    · rw [if_neg c26] at H
                      exact absurd H (by simp)
                  · rw [if_neg c25] at H
                    exact absurd H (by simp)
                · rw [if_neg c24] at H
                  have c24b0 : (a0_0 == 5) = false := beq_eq_false_iff_ne.mpr c24
                  have c24b1 : (a0_0 != 5) = true := bne_iff_ne.mpr c24
                  by_cases c32 : a0_0 = 6
                  · rw [if_pos c32] at H
                    have c32b0 : (a0_0 == 6) = true := beq_iff_eq.mpr c32
                    have c32b1 : (a0_0 != 6) = false := bne_eq_false_iff_eq.mpr c32
                    clear c32
                    by_cases c33 : t143.size + ((⟨#[32]⟩ : ByteArray) ++ t144).size ≤ 9223372036854775807
                    · rw [if_pos c33] at H
                      have c33b0 := eq_true c33
                      have c33b1 : decide (t143.size + ((⟨#[32]⟩ : ByteArray) ++ t144).size ≤ 9223372036854775807) = true := decide_eq_true c33
                      have c33n := c33
                      simp only [ByteArray.size_append, show (⟨#[32]⟩ : ByteArray).size = 1 from rfl] at c33n
                      have c33n0 : (9223372036854775807 < 1 + t144.size) = False := eq_false (by omega)
                      have c33n1 : (9223372036854775807 < t143.size + (1 + t144.size)) = False := eq_false (by omega)
                      try have c33b2 : (9223372036854775807 < t143.size + ((⟨#[32]⟩ : ByteArray) ++ t144).size) = False := eq_false (Nat.not_lt.2 c33)
                      by_cases c34 : (t143 ++ ((⟨#[32]⟩ : ByteArray) ++ t144)).size + ((⟨#[32]⟩ : ByteArray) ++ t145).size ≤ 9223372036854775807
                      · rw [if_pos c34] at H
                        have c34b0 := eq_true c34
                        have c34b1 : decide ((t143 ++ ((⟨#[32]⟩ : ByteArray) ++ t144)).size + ((⟨#[32]⟩ : ByteArray) ++ t145).size ≤ 9223372036854775807) = true := decide_eq_true c34
                        have c34n := c34
                        simp only [ByteArray.size_append, show (⟨#[32]⟩ : ByteArray).size = 1 from rfl] at c34n
                        have c34n0 : (9223372036854775807 < 1 + t144.size) = False := eq_false (by omega)
                        have c34n1 : (9223372036854775807 < t143.size + (1 + t144.size)) = False := eq_false (by omega)
                        have c34n2 : (9223372036854775807 < 1 + t145.size) = False := eq_false (by omega)
                        have c34n3 : (9223372036854775807 < (t143.size + (1 + t144.size)) + (1 + t145.size)) = False := eq_false (by omega)
                        try have c34b2 : (9223372036854775807 < (t143 ++ ((⟨#[32]⟩ : ByteArray) ++ t144)).size + ((⟨#[32]⟩ : ByteArray) ++ t145).size) = False := eq_false (Nat.not_lt.2 c34)
                        by_cases c35 : ((t143 ++ ((⟨#[32]⟩ : ByteArray) ++ t144)) ++ ((⟨#[32]⟩ : ByteArray) ++ t145)).size + 1 ≤ 9223372036854775807
                        · rw [if_pos c35] at H
                          have c35b0 := eq_true c35
                          have c35b1 : decide (((t143 ++ ((⟨#[32]⟩ : ByteArray) ++ t144)) ++ ((⟨#[32]⟩ : ByteArray) ++ t145)).size + 1 ≤ 9223372036854775807) = true := decide_eq_true c35
                          have c35n := c35
                          simp only [ByteArray.size_append, show (⟨#[32]⟩ : ByteArray).size = 1 from rfl] at c35n
                          have c35n0 : (9223372036854775807 < 1 + t144.size) = False := eq_false (by omega)
                          have c35n1 : (9223372036854775807 < t143.size + (1 + t144.size)) = False := eq_false (by omega)
                          have c35n2 : (9223372036854775807 < 1 + t145.size) = False := eq_false (by omega)
                          have c35n3 : (9223372036854775807 < (t143.size + (1 + t144.size)) + (1 + t145.size)) = False := eq_false (by omega)
                          have c35n4 : (9223372036854775807 < ((t143.size + (1 + t144.size)) + (1 + t145.size)) + 1) = False := eq_false (by omega)
                          try have c35b2 : (9223372036854775807 < ((t143 ++ ((⟨#[32]⟩ : ByteArray) ++ t144)) ++ ((⟨#[32]⟩ : ByteArray) ++ t145)).size + 1) = False := eq_false (Nat.not_lt.2 c35)
                          by_cases c36 : (((t143 ++ ((⟨#[32]⟩ : ByteArray) ++ t144)) ++ ((⟨#[32]⟩ : ByteArray) ++ t145)) ++ (⟨#[32]⟩ : ByteArray)).size + a0_5.size ≤ 9223372036854775807
                          · rw [if_pos c36] at H
                            have c36b0 := eq_true c36
                            have c36b1 : decide ((((t143 ++ ((⟨#[32]⟩ : ByteArray) ++ t144)) ++ ((⟨#[32]⟩ : ByteArray) ++ t145)) ++ (⟨#[32]⟩ : ByteArray)).size + a0_5.size ≤ 9223372036854775807) = true := decide_eq_true c36
                            have c36n := c36
                            simp only [ByteArray.size_append, show (⟨#[32]⟩ : ByteArray).size = 1 from rfl] at c36n
                            have c36n0 : (9223372036854775807 < 1 + t144.size) = False := eq_false (by omega)
                            have c36n1 : (9223372036854775807 < t143.size + (1 + t144.size)) = False := eq_false (by omega)
                            have c36n2 : (9223372036854775807 < 1 + t145.size) = False := eq_false (by omega)
                            have c36n3 : (9223372036854775807 < (t143.size + (1 + t144.size)) + (1 + t145.size)) = False := eq_false (by omega)
                            have c36n4 : (9223372036854775807 < ((t143.size + (1 + t144.size)) + (1 + t145.size)) + 1) = False := eq_false (by omega)
                            have c36n5 : (9223372036854775807 < (((t143.size + (1 + t144.size)) + (1 + t145.size)) + 1) + a0_5.size) = False := eq_false (by omega)
                            try have c36b2 : (9223372036854775807 < (((t143 ++ ((⟨#[32]⟩ : ByteArray) ++ t144)) ++ ((⟨#[32]⟩ : ByteArray) ++ t145)) ++ (⟨#[32]⟩ : ByteArray)).size + a0_5.size) = False := eq_false (Nat.not_lt.2 c36)
                            have H' := Aside0.mk H
                            clear H
                            have hcz37_0 : wc.cell? ⟨gb141, 0, none⟩ = some (.int .i64 a0_0) := (blk_cell BK141.out 0).trans rfl
                            have hcz37_1 : wc.cell? ⟨gb141, 1, none⟩ = some (.int .i64 a0_1) := (blk_cell BK141.out 1).trans rfl
                            have hcz37_2 : wc.cell? ⟨gb141, 2, none⟩ = some (.int .i64 a0_2) := (blk_cell BK141.out 2).trans rfl
                            have hcz37_3 : wc.cell? ⟨gb141, 3, none⟩ = some (.int .i64 a0_3) := (blk_cell BK141.out 3).trans rfl
                            have hcz37_4 : wc.cell? ⟨gb141, 4, none⟩ = some (.int .i64 a0_4) := (blk_cell BK141.out 4).trans rfl
                            have hcz37_5 : wc.cell? ⟨gb141, 5, none⟩ = some (.string a0_5) := (blk_cell BK141.out 5).trans rfl
                            have hfz37_0 := blk_frozen BK141.out 0
                            have hfz37_1 := blk_frozen BK141.out 1
                            have hfz37_2 := blk_frozen BK141.out 2
                            have hfz37_3 := blk_frozen BK141.out 3
                            have hfz37_4 := blk_frozen BK141.out 4
                            have hfz37_5 := blk_frozen BK141.out 5
                            go_wp2
                            go_meet
                            case rel => exact ⟨_, ((((t143 ++ ((⟨#[32]⟩ : ByteArray) ++ t144)) ++ ((⟨#[32]⟩ : ByteArray) ++ t145)) ++ (⟨#[32]⟩ : ByteArray)) ++ a0_5), (by first | rfl | (simp; done) | (simp [*]; done)), H', ⟨by have := HJ19.out; first | omega | exact Nat.le_refl _⟩, ⟨by (with_reducible repeat (first | refine blk_drewN ?_ _ | refine blk_drew ?_ | refine blk_alloc ?_ _)); exact BK141.out⟩, ⟨by repeat (first | (with_reducible first | exact HB.out | apply below_alloc | apply pw_below_drewN | apply below_drew1 | refine below_set ?_ GE141.out) | exact HB.out)⟩⟩
                          · rw [if_neg c36] at H
                            exact absurd H (by simp)
                        · rw [if_neg c35] at H
                          exact absurd H (by simp)
                      · rw [if_neg c34] at H
                        exact absurd H (by simp)
                    · rw [if_neg c33] at H
                      exact absurd H (by simp)
                  · rw [if_neg c32] at H
                    have c32b0 : (a0_0 == 6) = false := beq_eq_false_iff_ne.mpr c32
                    have c32b1 : (a0_0 != 6) = true := bne_iff_ne.mpr c32
                    by_cases c38 : a0_0 = 7
                    · rw [if_pos c38] at H
                      have c38b0 : (a0_0 == 7) = true := beq_iff_eq.mpr c38
                      have c38b1 : (a0_0 != 7) = false := bne_eq_false_iff_eq.mpr c38
                      clear c38
                      by_cases c39 : t143.size + ((⟨#[32]⟩ : ByteArray) ++ t144).size ≤ 9223372036854775807
                      · rw [if_pos c39] at H
                        have c39b0 := eq_true c39
                        have c39b1 : decide (t143.size + ((⟨#[32]⟩ : ByteArray) ++ t144).size ≤ 9223372036854775807) = true := decide_eq_true c39
                        have c39n := c39
                        simp only [ByteArray.size_append, show (⟨#[32]⟩ : ByteArray).size = 1 from rfl] at c39n
                        have c39n0 : (9223372036854775807 < 1 + t144.size) = False := eq_false (by omega)
                        have c39n1 : (9223372036854775807 < t143.size + (1 + t144.size)) = False := eq_false (by omega)
                        try have c39b2 : (9223372036854775807 < t143.size + ((⟨#[32]⟩ : ByteArray) ++ t144).size) = False := eq_false (Nat.not_lt.2 c39)
                        by_cases c40 : (t143 ++ ((⟨#[32]⟩ : ByteArray) ++ t144)).size + 1 ≤ 9223372036854775807
                        · rw [if_pos c40] at H
                          have c40b0 := eq_true c40
                          have c40b1 : decide ((t143 ++ ((⟨#[32]⟩ : ByteArray) ++ t144)).size + 1 ≤ 9223372036854775807) = true := decide_eq_true c40
                          have c40n := c40
                          simp only [ByteArray.size_append, show (⟨#[32]⟩ : ByteArray).size = 1 from rfl] at c40n
                          have c40n0 : (9223372036854775807 < 1 + t144.size) = False := eq_false (by omega)
                          have c40n1 : (9223372036854775807 < t143.size + (1 + t144.size)) = False := eq_false (by omega)
                          have c40n2 : (9223372036854775807 < (t143.size + (1 + t144.size)) + 1) = False := eq_false (by omega)
                          try have c40b2 : (9223372036854775807 < (t143 ++ ((⟨#[32]⟩ : ByteArray) ++ t144)).size + 1) = False := eq_false (Nat.not_lt.2 c40)
                          by_cases c41 : ((t143 ++ ((⟨#[32]⟩ : ByteArray) ++ t144)) ++ (⟨#[32]⟩ : ByteArray)).size + a0_5.size ≤ 9223372036854775807
                          · rw [if_pos c41] at H
                            have c41b0 := eq_true c41
                            have c41b1 : decide (((t143 ++ ((⟨#[32]⟩ : ByteArray) ++ t144)) ++ (⟨#[32]⟩ : ByteArray)).size + a0_5.size ≤ 9223372036854775807) = true := decide_eq_true c41
                            have c41n := c41
                            simp only [ByteArray.size_append, show (⟨#[32]⟩ : ByteArray).size = 1 from rfl] at c41n
                            have c41n0 : (9223372036854775807 < 1 + t144.size) = False := eq_false (by omega)
                            have c41n1 : (9223372036854775807 < t143.size + (1 + t144.size)) = False := eq_false (by omega)
                            have c41n2 : (9223372036854775807 < (t143.size + (1 + t144.size)) + 1) = False := eq_false (by omega)
                            have c41n3 : (9223372036854775807 < ((t143.size + (1 + t144.size)) + 1) + a0_5.size) = False := eq_false (by omega)
                            try have c41b2 : (9223372036854775807 < ((t143 ++ ((⟨#[32]⟩ : ByteArray) ++ t144)) ++ (⟨#[32]⟩ : ByteArray)).size + a0_5.size) = False := eq_false (Nat.not_lt.2 c41)
                            have H' := Aside0.mk H
                            clear H
                            have hcz42_0 : wc.cell? ⟨gb141, 0, none⟩ = some (.int .i64 a0_0) := (blk_cell BK141.out 0).trans rfl
                            have hcz42_1 : wc.cell? ⟨gb141, 1, none⟩ = some (.int .i64 a0_1) := (blk_cell BK141.out 1).trans rfl
                            have hcz42_2 : wc.cell? ⟨gb141, 2, none⟩ = some (.int .i64 a0_2) := (blk_cell BK141.out 2).trans rfl
                            have hcz42_3 : wc.cell? ⟨gb141, 3, none⟩ = some (.int .i64 a0_3) := (blk_cell BK141.out 3).trans rfl
                            have hcz42_4 : wc.cell? ⟨gb141, 4, none⟩ = some (.int .i64 a0_4) := (blk_cell BK141.out 4).trans rfl
                            have hcz42_5 : wc.cell? ⟨gb141, 5, none⟩ = some (.string a0_5) := (blk_cell BK141.out 5).trans rfl
                            have hfz42_0 := blk_frozen BK141.out 0
                            have hfz42_1 := blk_frozen BK141.out 1
                            have hfz42_2 := blk_frozen BK141.out 2
                            have hfz42_3 := blk_frozen BK141.out 3
                            have hfz42_4 := blk_frozen BK141.out 4
                            have hfz42_5 := blk_frozen BK141.out 5
                            go_wp2
                            go_meet
                            case rel => exact ⟨_, (((t143 ++ ((⟨#[32]⟩ : ByteArray) ++ t144)) ++ (⟨#[32]⟩ : ByteArray)) ++ a0_5), (by first | rfl | (simp; done) | (simp [*]; done)), H', ⟨by have := HJ19.out; first | omega | exact Nat.le_refl _⟩, ⟨by (with_reducible repeat (first | refine blk_drewN ?_ _ | refine blk_drew ?_ | refine blk_alloc ?_ _)); exact BK141.out⟩, ⟨by repeat (first | (with_reducible first | exact HB.out | apply below_alloc | apply pw_below_drewN | apply below_drew1 | refine below_set ?_ GE141.out) | exact HB.out)⟩⟩
                          · rw [if_neg c41] at H
                            exact absurd H (by simp)
                        · rw [if_neg c40] at H
                          exact absurd H (by simp)
                      · rw [if_neg c39] at H
                        exact absurd H (by simp)
                    · rw [if_neg c38] at H
                      have c38b0 : (a0_0 == 7) = false := beq_eq_false_iff_ne.mpr c38
                      have c38b1 : (a0_0 != 7) = true := bne_iff_ne.mpr c38
                      by_cases c43 : t143.size + ((⟨#[32]⟩ : ByteArray) ++ t144).size ≤ 9223372036854775807
                      · rw [if_pos c43] at H
                        have c43b0 := eq_true c43
                        have c43b1 : decide (t143.size + ((⟨#[32]⟩ : ByteArray) ++ t144).size ≤ 9223372036854775807) = true := decide_eq_true c43
                        have c43n := c43
                        simp only [ByteArray.size_append, show (⟨#[32]⟩ : ByteArray).size = 1 from rfl] at c43n
                        have c43n0 : (9223372036854775807 < 1 + t144.size) = False := eq_false (by omega)
                        have c43n1 : (9223372036854775807 < t143.size + (1 + t144.size)) = False := eq_false (by omega)
                        try have c43b2 : (9223372036854775807 < t143.size + ((⟨#[32]⟩ : ByteArray) ++ t144).size) = False := eq_false (Nat.not_lt.2 c43)
                        by_cases c44 : (t143 ++ ((⟨#[32]⟩ : ByteArray) ++ t144)).size + ((⟨#[32]⟩ : ByteArray) ++ t145).size ≤ 9223372036854775807
                        · rw [if_pos c44] at H
                          have c44b0 := eq_true c44
                          have c44b1 : decide ((t143 ++ ((⟨#[32]⟩ : ByteArray) ++ t144)).size + ((⟨#[32]⟩ : ByteArray) ++ t145).size ≤ 9223372036854775807) = true := decide_eq_true c44
                          have c44n := c44
                          simp only [ByteArray.size_append, show (⟨#[32]⟩ : ByteArray).size = 1 from rfl] at c44n
                          have c44n0 : (9223372036854775807 < 1 + t144.size) = False := eq_false (by omega)
                          have c44n1 : (9223372036854775807 < t143.size + (1 + t144.size)) = False := eq_false (by omega)
                          have c44n2 : (9223372036854775807 < 1 + t145.size) = False := eq_false (by omega)
                          have c44n3 : (9223372036854775807 < (t143.size + (1 + t144.size)) + (1 + t145.size)) = False := eq_false (by omega)
                          try have c44b2 : (9223372036854775807 < (t143 ++ ((⟨#[32]⟩ : ByteArray) ++ t144)).size + ((⟨#[32]⟩ : ByteArray) ++ t145).size) = False := eq_false (Nat.not_lt.2 c44)
                          obtain rfl := Option.some.inj H
                          go_wp2
                          go_ret
                          exact ⟨by first | rfl | (simp [errW_none, errW_some] <;> rfl) | (simp [*, errW_none, errW_some] <;> rfl), by repeat (first | (with_reducible first | exact HB.out | apply below_alloc | apply pw_below_drewN | apply below_drew1 | refine below_set ?_ GE141.out) | exact HB.out)⟩
                        · rw [if_neg c44] at H
                          exact absurd H (by simp)
                      · rw [if_neg c43] at H
                        exact absurd H (by simp)
        case rest =>
          clear HC9
          try clear c1
          try clear c2
          try clear p2
          try clear c3
          try clear c4
          try clear c6
          try clear c6b0
          try clear c6b1
          try clear c6b2
          try clear c8
          try clear c8b0
          try clear c8b1
          try clear c8b2
          try clear c9
          try clear c17
          try clear c21
          try clear c21b0
          try clear c21b1
          try clear c22
          try clear c23
          try clear c23b0
          try clear c23b1
          try clear c23b2
          try clear c24
          try clear c24b0
          try clear c24b1
          try clear c25
          try clear c25b0
          try clear c25b1
          try clear c25b2
          try clear c26
          try clear c26b0
          try clear c26b1
          try clear c26b2
          try clear c27
          try clear c27b0
          try clear c27b1
          try clear c27b2
          try clear c29
          try clear c29b0
          try clear c29b1
          try clear c29b2
          try clear c32
          try clear c32b0
          try clear c32b1
          try clear c33
          try clear c33b0
          try clear c33b1
          try clear c33b2
          try clear c34
          try clear c34b0
          try clear c34b1
          try clear c34b2
          try clear c35
          try clear c35b0
          try clear c35b1
          try clear c35b2
          try clear c36
          try clear c36b0
          try clear c36b1
          try clear c36b2
          try clear c38
          try clear c38b0
          try clear c38b1
          try clear c39
          try clear c39b0
          try clear c39b1
          try clear c39b2
          try clear c40
          try clear c40b0
          try clear c40b1
          try clear c40b2
          try clear c41
          try clear c41b0
          try clear c41b1
          try clear c41b2
          try clear c43
          try clear c43b0
          try clear c43b1
          try clear c43b2
          try clear c44
          try clear c44b0
          try clear c44b1
          try clear c44b2
          try clear hcz11_0
          try clear hcz11_1
          try clear hcz11_2
          try clear hcz11_3
          try clear hcz11_4
          try clear hcz11_5
          try clear hcz13_0
          try clear hcz13_1
          try clear hcz13_2
          try clear hcz13_3
          try clear hcz13_4
          try clear hcz13_5
          try clear hcz15_0
          try clear hcz15_1
          try clear hcz15_2
          try clear hcz15_3
          try clear hcz15_4
          try clear hcz15_5
          try clear hcz17_0
          try clear hcz17_1
          try clear hcz17_2
          try clear hcz17_3
          try clear hcz17_4
          try clear hcz17_5
          try clear hcz19_0
          try clear hcz19_1
          try clear hcz19_2
          try clear hcz19_3
          try clear hcz19_4
          try clear hcz19_5
          try clear hcz30_0
          try clear hcz30_1
          try clear hcz30_2
          try clear hcz30_3
          try clear hcz30_4
          try clear hcz30_5
          try clear hcz37_0
          try clear hcz37_1
          try clear hcz37_2
          try clear hcz37_3
          try clear hcz37_4
          try clear hcz37_5
          try clear hcz42_0
          try clear hcz42_1
          try clear hcz42_2
          try clear hcz42_3
          try clear hcz42_4
          try clear hcz42_5
          try clear hfz11_0
          try clear hfz11_1
          try clear hfz11_2
          try clear hfz11_3
          try clear hfz11_4
          try clear hfz11_5
          try clear hfz13_0
          try clear hfz13_1
          try clear hfz13_2
          try clear hfz13_3
          try clear hfz13_4
          try clear hfz13_5
          try clear hfz15_0
          try clear hfz15_1
          try clear hfz15_2
          try clear hfz15_3
          try clear hfz15_4
          try clear hfz15_5
          try clear hfz17_0
          try clear hfz17_1
          try clear hfz17_2
          try clear hfz17_3
          try clear hfz17_4
          try clear hfz17_5
          try clear hfz19_0
          try clear hfz19_1
          try clear hfz19_2
          try clear hfz19_3
          try clear hfz19_4
          try clear hfz19_5
          try clear hfz30_0
          try clear hfz30_1
          try clear hfz30_2
          try clear hfz30_3
          try clear hfz30_4
          try clear hfz30_5
          try clear hfz37_0
          try clear hfz37_1
          try clear hfz37_2
          try clear hfz37_3
          try clear hfz37_4
          try clear hfz37_5
          try clear hfz42_0
          try clear hfz42_1
          try clear hfz42_2
          try clear hfz42_3
          try clear hfz42_4
          try clear hfz42_5
          try clear p2
          obtain ⟨kq, x3_8, rfl, HA, HJ8, BK141, HB⟩ := hcut
          cases kq with
          | zero => exact absurd HA.out (by simp [spec_FormatInstr.j1])
          | succ kj8 =>
            have H := HA.out
            clear HA
            simp only [spec_FormatInstr.j1] at H
            by_cases c45 : a0_3 = (-1)
            · rw [if_pos c45] at H
              have c45b0 : (a0_3 == (-1)) = true := beq_iff_eq.mpr c45
              have c45b1 : (a0_3 != (-1)) = false := bne_eq_false_iff_eq.mpr c45
              clear c45
              by_cases c46 : a0_4 = (-1)
              · rw [if_pos c46] at H
                have c46b0 : (a0_4 == (-1)) = true := beq_iff_eq.mpr c46
                have c46b1 : (a0_4 != (-1)) = false := bne_eq_false_iff_eq.mpr c46
                clear c46
                obtain rfl := Option.some.inj H
                have hcz47_0 : wc.cell? ⟨gb141, 0, none⟩ = some (.int .i64 a0_0) := (blk_cell BK141.out 0).trans rfl
                have hcz47_1 : wc.cell? ⟨gb141, 1, none⟩ = some (.int .i64 a0_1) := (blk_cell BK141.out 1).trans rfl
                have hcz47_2 : wc.cell? ⟨gb141, 2, none⟩ = some (.int .i64 a0_2) := (blk_cell BK141.out 2).trans rfl
                have hcz47_3 : wc.cell? ⟨gb141, 3, none⟩ = some (.int .i64 a0_3) := (blk_cell BK141.out 3).trans rfl
                have hcz47_4 : wc.cell? ⟨gb141, 4, none⟩ = some (.int .i64 a0_4) := (blk_cell BK141.out 4).trans rfl
                have hcz47_5 : wc.cell? ⟨gb141, 5, none⟩ = some (.string a0_5) := (blk_cell BK141.out 5).trans rfl
                have hfz47_0 := blk_frozen BK141.out 0
                have hfz47_1 := blk_frozen BK141.out 1
                have hfz47_2 := blk_frozen BK141.out 2
                have hfz47_3 := blk_frozen BK141.out 3
                have hfz47_4 := blk_frozen BK141.out 4
                have hfz47_5 := blk_frozen BK141.out 5
                go_wp2
                go_ret
                exact ⟨by first | rfl | (simp [errW_none, errW_some] <;> rfl) | (simp [*, errW_none, errW_some] <;> rfl), by repeat (first | (with_reducible first | exact HB.out | apply below_alloc | apply pw_below_drewN | apply below_drew1 | refine below_set ?_ GE141.out) | exact HB.out)⟩
              · rw [if_neg c46] at H
                have c46b0 : (a0_4 == (-1)) = false := beq_eq_false_iff_ne.mpr c46
                have c46b1 : (a0_4 != (-1)) = true := bne_iff_ne.mpr c46
                by_cases c48 : x3_8.size + 1 ≤ 9223372036854775807
                · rw [if_pos c48] at H
                  have c48b0 := eq_true c48
                  have c48b1 : decide (x3_8.size + 1 ≤ 9223372036854775807) = true := decide_eq_true c48
                  try have c48b2 : (9223372036854775807 < x3_8.size + 1) = False := eq_false (Nat.not_lt.2 c48)
                  replace H := Option.bind_eq_some_iff.mp H
                  obtain ⟨t147, A490, H⟩ := H
                  replace H : (if (x3_8 ++ (⟨#[32]⟩ : ByteArray)).size + t147.size ≤ 9223372036854775807 then (some ((x3_8 ++ (⟨#[32]⟩ : ByteArray)) ++ t147)) else (none)) = some r := H
                  have A49 := Aside0.mk A490
                  clear A490
                  by_cases c50 : (x3_8 ++ (⟨#[32]⟩ : ByteArray)).size + t147.size ≤ 9223372036854775807
                  · rw [if_pos c50] at H
                    have c50b0 := eq_true c50
                    have c50b1 : decide ((x3_8 ++ (⟨#[32]⟩ : ByteArray)).size + t147.size ≤ 9223372036854775807) = true := decide_eq_true c50
                    have c50n := c50
                    simp only [ByteArray.size_append, show (⟨#[32]⟩ : ByteArray).size = 1 from rfl] at c50n
                    have c50n0 : (9223372036854775807 < x3_8.size + 1) = False := eq_false (by omega)
                    have c50n1 : (9223372036854775807 < (x3_8.size + 1) + t147.size) = False := eq_false (by omega)
                    try have c50b2 : (9223372036854775807 < (x3_8 ++ (⟨#[32]⟩ : ByteArray)).size + t147.size) = False := eq_false (Nat.not_lt.2 c50)
                    obtain rfl := Option.some.inj H
                    have hcz51_0 : wc.cell? ⟨gb141, 0, none⟩ = some (.int .i64 a0_0) := (blk_cell BK141.out 0).trans rfl
                    have hcz51_1 : wc.cell? ⟨gb141, 1, none⟩ = some (.int .i64 a0_1) := (blk_cell BK141.out 1).trans rfl
                    have hcz51_2 : wc.cell? ⟨gb141, 2, none⟩ = some (.int .i64 a0_2) := (blk_cell BK141.out 2).trans rfl
                    have hcz51_3 : wc.cell? ⟨gb141, 3, none⟩ = some (.int .i64 a0_3) := (blk_cell BK141.out 3).trans rfl
                    have hcz51_4 : wc.cell? ⟨gb141, 4, none⟩ = some (.int .i64 a0_4) := (blk_cell BK141.out 4).trans rfl
                    have hcz51_5 : wc.cell? ⟨gb141, 5, none⟩ = some (.string a0_5) := (blk_cell BK141.out 5).trans rfl
                    have hfz51_0 := blk_frozen BK141.out 0
                    have hfz51_1 := blk_frozen BK141.out 1
                    have hfz51_2 := blk_frozen BK141.out 2
                    have hfz51_3 := blk_frozen BK141.out 3
                    have hfz51_4 := blk_frozen BK141.out 4
                    have hfz51_5 := blk_frozen BK141.out 5
                    go_wp2_with (first | ((with_reducible refine gate_callee (f := 48) rfl ?_); refine goesL_ (some 81) rfl rfl Tryd.func48 (by kernel_rfl) rfl #[.int .i64 a0_4] rfl (by (try simp only [List.map_toArray, List.map_cons, List.map_nil]); first | done | rfl | (simp only [List.length_drop, List.length_take]; rfl)) ?_; (with_reducible refine (spec_FormatInt.calls kj8 a0_4 t147 _ A49.out).mono ?_); rintro e w52 ⟨rfl, hb⟩; refine ⟨_, rfl, ?_⟩; have n0_ := Aside0.mk (blk_below (g := gb141) (o := .cells #[.int .i64 a0_0, .int .i64 a0_1, .int .i64 a0_2, .int .i64 a0_3, .int .i64 a0_4, .string a0_5] 27 (0, 0)) (by (with_reducible repeat (first | refine blk_drewN ?_ _ | refine blk_drew ?_ | refine blk_alloc ?_ _)); exact BK141.out) hb); have n1_ := Aside0.mk (below_step (by repeat (first | (with_reducible first | exact HB.out | apply below_alloc | apply pw_below_drewN | apply below_drew1 | refine below_set ?_ GE141.out) | exact HB.out)) hb); clear BK141; clear HB; have BK141 := n0_; have HB := n1_; clear n0_ n1_; (try clear hb); (try clear hb2); (try clear hk); (try clear hi)))
                    go_ret
                    exact ⟨by first | rfl | (simp [errW_none, errW_some] <;> rfl) | (simp [*, errW_none, errW_some] <;> rfl), by repeat (first | (with_reducible first | exact HB.out | apply below_alloc | apply pw_below_drewN | apply below_drew1 | refine below_set ?_ GE141.out) | exact HB.out)⟩
                  · rw [if_neg c50] at H
                    exact absurd H (by simp)
                · rw [if_neg c48] at H
                  exact absurd H (by simp)
            · rw [if_neg c45] at H
              have c45b0 : (a0_3 == (-1)) = false := beq_eq_false_iff_ne.mpr c45
              have c45b1 : (a0_3 != (-1)) = true := bne_iff_ne.mpr c45
              by_cases c53 : x3_8.size + 1 ≤ 9223372036854775807
              · rw [if_pos c53] at H
                have c53b0 := eq_true c53
                have c53b1 : decide (x3_8.size + 1 ≤ 9223372036854775807) = true := decide_eq_true c53
                try have c53b2 : (9223372036854775807 < x3_8.size + 1) = False := eq_false (Nat.not_lt.2 c53)
                replace H := Option.bind_eq_some_iff.mp H
                obtain ⟨t148, A540, H⟩ := H
                replace H : (if (x3_8 ++ (⟨#[32]⟩ : ByteArray)).size + t148.size ≤ 9223372036854775807 then (if a0_4 = (-1) then (some ((x3_8 ++ (⟨#[32]⟩ : ByteArray)) ++ t148)) else (if ((x3_8 ++ (⟨#[32]⟩ : ByteArray)) ++ t148).size + 1 ≤ 9223372036854775807 then ((spec_FormatInt.f kj8 a0_4).bind fun t149 => (if (((x3_8 ++ (⟨#[32]⟩ : ByteArray)) ++ t148) ++ (⟨#[32]⟩ : ByteArray)).size + t149.size ≤ 9223372036854775807 then (some ((((x3_8 ++ (⟨#[32]⟩ : ByteArray)) ++ t148) ++ (⟨#[32]⟩ : ByteArray)) ++ t149)) else (none))) else (none))) else (none)) = some r := H
                have A54 := Aside0.mk A540
                clear A540
                by_cases c55 : (x3_8 ++ (⟨#[32]⟩ : ByteArray)).size + t148.size ≤ 9223372036854775807
                · rw [if_pos c55] at H
                  have c55b0 := eq_true c55
                  have c55b1 : decide ((x3_8 ++ (⟨#[32]⟩ : ByteArray)).size + t148.size ≤ 9223372036854775807) = true := decide_eq_true c55
                  have c55n := c55
                  simp only [ByteArray.size_append, show (⟨#[32]⟩ : ByteArray).size = 1 from rfl] at c55n
                  have c55n0 : (9223372036854775807 < x3_8.size + 1) = False := eq_false (by omega)
                  have c55n1 : (9223372036854775807 < (x3_8.size + 1) + t148.size) = False := eq_false (by omega)
                  try have c55b2 : (9223372036854775807 < (x3_8 ++ (⟨#[32]⟩ : ByteArray)).size + t148.size) = False := eq_false (Nat.not_lt.2 c55)
                  by_cases c56 : a0_4 = (-1)
                  · rw [if_pos c56] at H
                    have c56b0 : (a0_4 == (-1)) = true := beq_iff_eq.mpr c56
                    have c56b1 : (a0_4 != (-1)) = false := bne_eq_false_iff_eq.mpr c56
                    clear c56
                    obtain rfl := Option.some.inj H
                    have hcz57_0 : wc.cell? ⟨gb141, 0, none⟩ = some (.int .i64 a0_0) := (blk_cell BK141.out 0).trans rfl
                    have hcz57_1 : wc.cell? ⟨gb141, 1, none⟩ = some (.int .i64 a0_1) := (blk_cell BK141.out 1).trans rfl
                    have hcz57_2 : wc.cell? ⟨gb141, 2, none⟩ = some (.int .i64 a0_2) := (blk_cell BK141.out 2).trans rfl
                    have hcz57_3 : wc.cell? ⟨gb141, 3, none⟩ = some (.int .i64 a0_3) := (blk_cell BK141.out 3).trans rfl
                    have hcz57_4 : wc.cell? ⟨gb141, 4, none⟩ = some (.int .i64 a0_4) := (blk_cell BK141.out 4).trans rfl
                    have hcz57_5 : wc.cell? ⟨gb141, 5, none⟩ = some (.string a0_5) := (blk_cell BK141.out 5).trans rfl
                    have hfz57_0 := blk_frozen BK141.out 0
                    have hfz57_1 := blk_frozen BK141.out 1
                    have hfz57_2 := blk_frozen BK141.out 2
                    have hfz57_3 := blk_frozen BK141.out 3
                    have hfz57_4 := blk_frozen BK141.out 4
                    have hfz57_5 := blk_frozen BK141.out 5
                    go_wp2_with (first | ((with_reducible refine gate_callee (f := 48) rfl ?_); refine goesL_ (some 72) rfl rfl Tryd.func48 (by kernel_rfl) rfl #[.int .i64 a0_3] rfl (by (try simp only [List.map_toArray, List.map_cons, List.map_nil]); first | done | rfl | (simp only [List.length_drop, List.length_take]; rfl)) ?_; (with_reducible refine (spec_FormatInt.calls kj8 a0_3 t148 _ A54.out).mono ?_); rintro e w58 ⟨rfl, hb⟩; refine ⟨_, rfl, ?_⟩; have n0_ := Aside0.mk (blk_below (g := gb141) (o := .cells #[.int .i64 a0_0, .int .i64 a0_1, .int .i64 a0_2, .int .i64 a0_3, .int .i64 a0_4, .string a0_5] 27 (0, 0)) (by (with_reducible repeat (first | refine blk_drewN ?_ _ | refine blk_drew ?_ | refine blk_alloc ?_ _)); exact BK141.out) hb); have n1_ := Aside0.mk (below_step (by repeat (first | (with_reducible first | exact HB.out | apply below_alloc | apply pw_below_drewN | apply below_drew1 | refine below_set ?_ GE141.out) | exact HB.out)) hb); clear BK141; clear HB; have BK141 := n0_; have HB := n1_; clear n0_ n1_; (try clear hb); (try clear hb2); (try clear hk); (try clear hi); have hcz59_0 : w58.cell? ⟨gb141, 0, none⟩ = some (.int .i64 a0_0) := (blk_cell BK141.out 0).trans rfl; have hcz59_1 : w58.cell? ⟨gb141, 1, none⟩ = some (.int .i64 a0_1) := (blk_cell BK141.out 1).trans rfl; have hcz59_2 : w58.cell? ⟨gb141, 2, none⟩ = some (.int .i64 a0_2) := (blk_cell BK141.out 2).trans rfl; have hcz59_3 : w58.cell? ⟨gb141, 3, none⟩ = some (.int .i64 a0_3) := (blk_cell BK141.out 3).trans rfl; have hcz59_4 : w58.cell? ⟨gb141, 4, none⟩ = some (.int .i64 a0_4) := (blk_cell BK141.out 4).trans rfl; have hcz59_5 : w58.cell? ⟨gb141, 5, none⟩ = some (.string a0_5) := (blk_cell BK141.out 5).trans rfl; have hfz59_0 := blk_frozen BK141.out 0; have hfz59_1 := blk_frozen BK141.out 1; have hfz59_2 := blk_frozen BK141.out 2; have hfz59_3 := blk_frozen BK141.out 3; have hfz59_4 := blk_frozen BK141.out 4; have hfz59_5 := blk_frozen BK141.out 5))
                    go_ret
                    exact ⟨by first | rfl | (simp [errW_none, errW_some] <;> rfl) | (simp [*, errW_none, errW_some] <;> rfl), by repeat (first | (with_reducible first | exact HB.out | apply below_alloc | apply pw_below_drewN | apply below_drew1 | refine below_set ?_ GE141.out) | exact HB.out)⟩
                  · rw [if_neg c56] at H
                    have c56b0 : (a0_4 == (-1)) = false := beq_eq_false_iff_ne.mpr c56
                    have c56b1 : (a0_4 != (-1)) = true := bne_iff_ne.mpr c56
                    by_cases c60 : ((x3_8 ++ (⟨#[32]⟩ : ByteArray)) ++ t148).size + 1 ≤ 9223372036854775807
                    · rw [if_pos c60] at H
                      have c60b0 := eq_true c60
                      have c60b1 : decide (((x3_8 ++ (⟨#[32]⟩ : ByteArray)) ++ t148).size + 1 ≤ 9223372036854775807) = true := decide_eq_true c60
                      have c60n := c60
                      simp only [ByteArray.size_append, show (⟨#[32]⟩ : ByteArray).size = 1 from rfl] at c60n
                      have c60n0 : (9223372036854775807 < x3_8.size + 1) = False := eq_false (by omega)
                      have c60n1 : (9223372036854775807 < (x3_8.size + 1) + t148.size) = False := eq_false (by omega)
                      have c60n2 : (9223372036854775807 < ((x3_8.size + 1) + t148.size) + 1) = False := eq_false (by omega)
                      try have c60b2 : (9223372036854775807 < ((x3_8 ++ (⟨#[32]⟩ : ByteArray)) ++ t148).size + 1) = False := eq_false (Nat.not_lt.2 c60)
                      replace H := Option.bind_eq_some_iff.mp H
                      obtain ⟨t149, A610, H⟩ := H
                      replace H : (if (((x3_8 ++ (⟨#[32]⟩ : ByteArray)) ++ t148) ++ (⟨#[32]⟩ : ByteArray)).size + t149.size ≤ 9223372036854775807 then (some ((((x3_8 ++ (⟨#[32]⟩ : ByteArray)) ++ t148) ++ (⟨#[32]⟩ : ByteArray)) ++ t149)) else (none)) = some r := H
                      have A61 := Aside0.mk A610
                      clear A610
                      by_cases c62 : (((x3_8 ++ (⟨#[32]⟩ : ByteArray)) ++ t148) ++ (⟨#[32]⟩ : ByteArray)).size + t149.size ≤ 9223372036854775807
                      · rw [if_pos c62] at H
                        have c62b0 := eq_true c62
                        have c62b1 : decide ((((x3_8 ++ (⟨#[32]⟩ : ByteArray)) ++ t148) ++ (⟨#[32]⟩ : ByteArray)).size + t149.size ≤ 9223372036854775807) = true := decide_eq_true c62
                        have c62n := c62
                        simp only [ByteArray.size_append, show (⟨#[32]⟩ : ByteArray).size = 1 from rfl] at c62n
                        have c62n0 : (9223372036854775807 < x3_8.size + 1) = False := eq_false (by omega)
                        have c62n1 : (9223372036854775807 < (x3_8.size + 1) + t148.size) = False := eq_false (by omega)
                        have c62n2 : (9223372036854775807 < ((x3_8.size + 1) + t148.size) + 1) = False := eq_false (by omega)
                        have c62n3 : (9223372036854775807 < (((x3_8.size + 1) + t148.size) + 1) + t149.size) = False := eq_false (by omega)
                        try have c62b2 : (9223372036854775807 < (((x3_8 ++ (⟨#[32]⟩ : ByteArray)) ++ t148) ++ (⟨#[32]⟩ : ByteArray)).size + t149.size) = False := eq_false (Nat.not_lt.2 c62)
                        obtain rfl := Option.some.inj H
                        have hcz63_0 : wc.cell? ⟨gb141, 0, none⟩ = some (.int .i64 a0_0) := (blk_cell BK141.out 0).trans rfl
                        have hcz63_1 : wc.cell? ⟨gb141, 1, none⟩ = some (.int .i64 a0_1) := (blk_cell BK141.out 1).trans rfl
                        have hcz63_2 : wc.cell? ⟨gb141, 2, none⟩ = some (.int .i64 a0_2) := (blk_cell BK141.out 2).trans rfl
                        have hcz63_3 : wc.cell? ⟨gb141, 3, none⟩ = some (.int .i64 a0_3) := (blk_cell BK141.out 3).trans rfl
                        have hcz63_4 : wc.cell? ⟨gb141, 4, none⟩ = some (.int .i64 a0_4) := (blk_cell BK141.out 4).trans rfl
                        have hcz63_5 : wc.cell? ⟨gb141, 5, none⟩ = some (.string a0_5) := (blk_cell BK141.out 5).trans rfl
                        have hfz63_0 := blk_frozen BK141.out 0
                        have hfz63_1 := blk_frozen BK141.out 1
                        have hfz63_2 := blk_frozen BK141.out 2
                        have hfz63_3 := blk_frozen BK141.out 3
                        have hfz63_4 := blk_frozen BK141.out 4
                        have hfz63_5 := blk_frozen BK141.out 5
                        go_wp2_with (first | ((with_reducible refine gate_callee (f := 48) rfl ?_); refine goesL_ (some 72) rfl rfl Tryd.func48 (by kernel_rfl) rfl #[.int .i64 a0_3] rfl (by (try simp only [List.map_toArray, List.map_cons, List.map_nil]); first | done | rfl | (simp only [List.length_drop, List.length_take]; rfl)) ?_; (with_reducible refine (spec_FormatInt.calls kj8 a0_3 t148 _ A54.out).mono ?_); rintro e w64 ⟨rfl, hb⟩; refine ⟨_, rfl, ?_⟩; have n0_ := Aside0.mk (blk_below (g := gb141) (o := .cells #[.int .i64 a0_0, .int .i64 a0_1, .int .i64 a0_2, .int .i64 a0_3, .int .i64 a0_4, .string a0_5] 27 (0, 0)) (by (with_reducible repeat (first | refine blk_drewN ?_ _ | refine blk_drew ?_ | refine blk_alloc ?_ _)); exact BK141.out) hb); have n1_ := Aside0.mk (below_step (by repeat (first | (with_reducible first | exact HB.out | apply below_alloc | apply pw_below_drewN | apply below_drew1 | refine below_set ?_ GE141.out) | exact HB.out)) hb); clear BK141; clear HB; have BK141 := n0_; have HB := n1_; clear n0_ n1_; (try clear hb); (try clear hb2); (try clear hk); (try clear hi); have hcz65_0 : w64.cell? ⟨gb141, 0, none⟩ = some (.int .i64 a0_0) := (blk_cell BK141.out 0).trans rfl; have hcz65_1 : w64.cell? ⟨gb141, 1, none⟩ = some (.int .i64 a0_1) := (blk_cell BK141.out 1).trans rfl; have hcz65_2 : w64.cell? ⟨gb141, 2, none⟩ = some (.int .i64 a0_2) := (blk_cell BK141.out 2).trans rfl; have hcz65_3 : w64.cell? ⟨gb141, 3, none⟩ = some (.int .i64 a0_3) := (blk_cell BK141.out 3).trans rfl; have hcz65_4 : w64.cell? ⟨gb141, 4, none⟩ = some (.int .i64 a0_4) := (blk_cell BK141.out 4).trans rfl; have hcz65_5 : w64.cell? ⟨gb141, 5, none⟩ = some (.string a0_5) := (blk_cell BK141.out 5).trans rfl; have hfz65_0 := blk_frozen BK141.out 0; have hfz65_1 := blk_frozen BK141.out 1; have hfz65_2 := blk_frozen BK141.out 2; have hfz65_3 := blk_frozen BK141.out 3; have hfz65_4 := blk_frozen BK141.out 4; have hfz65_5 := blk_frozen BK141.out 5) | ((with_reducible refine gate_callee (f := 48) rfl ?_); refine goesL_ (some 81) rfl rfl Tryd.func48 (by kernel_rfl) rfl #[.int .i64 a0_4] rfl (by (try simp only [List.map_toArray, List.map_cons, List.map_nil]); first | done | rfl | (simp only [List.length_drop, List.length_take]; rfl)) ?_; (with_reducible refine (spec_FormatInt.calls kj8 a0_4 t149 _ A61.out).mono ?_); rintro e w66 ⟨rfl, hb⟩; refine ⟨_, rfl, ?_⟩; have n0_ := Aside0.mk (blk_below (g := gb141) (o := .cells #[.int .i64 a0_0, .int .i64 a0_1, .int .i64 a0_2, .int .i64 a0_3, .int .i64 a0_4, .string a0_5] 27 (0, 0)) (by (with_reducible repeat (first | refine blk_drewN ?_ _ | refine blk_drew ?_ | refine blk_alloc ?_ _)); exact BK141.out) hb); have n1_ := Aside0.mk (below_step (by repeat (first | (with_reducible first | exact HB.out | apply below_alloc | apply pw_below_drewN | apply below_drew1 | refine below_set ?_ GE141.out) | exact HB.out)) hb); clear BK141; clear HB; have BK141 := n0_; have HB := n1_; clear n0_ n1_; (try clear hb); (try clear hb2); (try clear hk); (try clear hi)))
                        go_ret
                        exact ⟨by first | rfl | (simp [errW_none, errW_some] <;> rfl) | (simp [*, errW_none, errW_some] <;> rfl), by repeat (first | (with_reducible first | exact HB.out | apply below_alloc | apply pw_below_drewN | apply below_drew1 | refine below_set ?_ GE141.out) | exact HB.out)⟩
                      · rw [if_neg c62] at H
                        exact absurd H (by simp)
                    · rw [if_neg c60] at H
                      exact absurd H (by simp)
                · rw [if_neg c55] at H
                  exact absurd H (by simp)
              · rw [if_neg c53] at H
                exact absurd H (by simp)
      · rw [if_neg c8] at H
        exact absurd H (by simp)
    · rw [if_neg c6] at H
      exact absurd H (by simp)
  · replace c3 := Bool.eq_false_iff.mpr c3
    subst c3
    have H1 : (some (⟨#[]⟩ : ByteArray)) = some r := by rw [if_neg (show ¬ (false = true) by decide)] at H; exact H
    clear H
    have H := H1
    clear H1
    obtain rfl := Option.some.inj H
    go_enter Tryd.func22, Tryd.ntmps22
    go_wp2_with (first | ((with_reducible refine gate_dst (N := 1) rfl ?_); refine box_event ?hg (N := 1) ?hd (cs := #[.int .i64 a0_0, .int .i64 a0_1, .int .i64 a0_2, .int .i64 a0_3, .int .i64 a0_4, .string a0_5]) (t := 27) ?hr ?_; (case hd => rfl); (case hg => rfl); (case hr => first | (go_simp; done) | (go_simp; rfl)); intro gb141 hg w67 hbox hb; have n0_ := Aside0.mk (below_step (by repeat (first | (with_reducible first | exact HB.out | apply below_alloc | apply pw_below_drewN | apply below_drew1) | exact HB.out)) hb); have n1_ := Aside0.mk (hbox); have n2_ := Aside0.mk ((by rw [hg]; exact (below_size (by repeat (first | (with_reducible first | exact HB.out | apply below_alloc | apply pw_below_drewN | apply below_drew1) | exact HB.out))) : w.heap.size ≤ gb141)); have n3_ := Aside0.mk ((by rw [hg]; exact (below_size (by repeat (first | (with_reducible first | exact HB.out | apply below_alloc | apply pw_below_drewN | apply below_drew1) | exact HB.out))) : w.heap.size ≤ gb141)); clear HB; have HB := n0_; have BK141 := n1_; have GW141 := n2_; have GE141 := n3_; clear n0_ n1_ n2_ n3_; clear hb hbox hg; have hcz68_0 : w67.cell? ⟨gb141, 0, none⟩ = some (.int .i64 a0_0) := (blk_cell BK141.out 0).trans rfl; have hcz68_1 : w67.cell? ⟨gb141, 1, none⟩ = some (.int .i64 a0_1) := (blk_cell BK141.out 1).trans rfl; have hcz68_2 : w67.cell? ⟨gb141, 2, none⟩ = some (.int .i64 a0_2) := (blk_cell BK141.out 2).trans rfl; have hcz68_3 : w67.cell? ⟨gb141, 3, none⟩ = some (.int .i64 a0_3) := (blk_cell BK141.out 3).trans rfl; have hcz68_4 : w67.cell? ⟨gb141, 4, none⟩ = some (.int .i64 a0_4) := (blk_cell BK141.out 4).trans rfl; have hcz68_5 : w67.cell? ⟨gb141, 5, none⟩ = some (.string a0_5) := (blk_cell BK141.out 5).trans rfl; have hfz68_0 := blk_frozen BK141.out 0; have hfz68_1 := blk_frozen BK141.out 1; have hfz68_2 := blk_frozen BK141.out 2; have hfz68_3 := blk_frozen BK141.out 3; have hfz68_4 := blk_frozen BK141.out 4; have hfz68_5 := blk_frozen BK141.out 5) | ((with_reducible refine gate_callee (f := 17) rfl ?_); refine goesL_ (some 7) rfl rfl Tryd.func17 (by kernel_rfl) rfl #[.agg #[.int .i64 a0_0, .int .i64 a0_1, .int .i64 a0_2, .int .i64 a0_3, .int .i64 a0_4, .string a0_5]] rfl (by (try simp only [List.map_toArray, List.map_cons, List.map_nil]); first | done | rfl | (simp only [List.length_drop, List.length_take]; rfl)) ?_; (with_reducible refine (spec_IsInstr.calls k a0_0 a0_1 a0_2 a0_3 a0_4 a0_5 false _ A2.out).mono ?_); rintro e w69 ⟨rfl, hb⟩; refine ⟨_, rfl, ?_⟩; have n0_ := Aside0.mk (blk_below (g := gb141) (o := .cells #[.int .i64 a0_0, .int .i64 a0_1, .int .i64 a0_2, .int .i64 a0_3, .int .i64 a0_4, .string a0_5] 27 (0, 0)) (by (with_reducible repeat (first | refine blk_drewN ?_ _ | refine blk_drew ?_ | refine blk_alloc ?_ _)); exact BK141.out) hb); have n1_ := Aside0.mk (below_step (by repeat (first | (with_reducible first | exact HB.out | apply below_alloc | apply pw_below_drewN | apply below_drew1 | refine below_set ?_ GE141.out) | exact HB.out)) hb); clear BK141; clear HB; have BK141 := n0_; have HB := n1_; clear n0_ n1_; (try clear hb); (try clear hb2); (try clear hk); (try clear hi)))
    go_ret
    exact ⟨by first | rfl | (simp [errW_none, errW_some] <;> rfl) | (simp [*, errW_none, errW_some] <;> rfl), by repeat (first | (with_reducible first | exact HB.out | apply below_alloc | apply pw_below_drewN | apply below_drew1 | refine below_set ?_ GE141.out) | exact HB.out)⟩

end Go.Proofs.YtmipaoobkjppdaaDoor.QFnExactParseInstr
