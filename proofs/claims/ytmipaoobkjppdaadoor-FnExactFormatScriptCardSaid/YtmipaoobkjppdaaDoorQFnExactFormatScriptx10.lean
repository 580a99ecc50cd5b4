-- Written by a program of this session, after the kit's print, with contracts by hand.
import Derived.Test.YtmipaoobkjppdaaDoorQFnExactFormatScriptx0
import Derived.Test.YtmipaoobkjppdaaDoorQFnExactFormatScriptx7
import Derived.Test.YtmipaoobkjppdaaDoorQFnExactFormatScriptx8
import Derived.Test.YtmipaoobkjppdaaDoorQFnExactFormatScriptx9
namespace Go.Proofs.YtmipaoobkjppdaaDoor.QFnExactFormatScript
open Go.RowKit Go.Proofs.YtmipaoobkjppdaaDoorW.PrintWords Go.Proofs.YtmipaoobkjppdaaDoorW.PrintLast Go.Proofs.YtmipaoobkjppdaaDoorW.PrintMore
attribute [local go_sem] max2_int min2_int max_two min_two max_three min_three max_four min_four   -- for this text's walks alone
set_option linter.unusedVariables false
set_option linter.unusedSimpArgs false

/-! ### impl_Instr_116: function 116 (by hand) -/
set_option maxHeartbeats 8000000 in
set_option maxRecDepth 100000 in
theorem impl_Instr_116.at (g : Nat) (lb : Array Value) (eg : ∀ args w, (callFunc g args).run Tryd.prog w = .ok (.enter g args) w) (q : S27 → Option Bool) (A0 : Option Addr) (c0 : Nat) (l0 : List S27) (r : Int) (w : World) (hr0 : Kd.C k27 w A0 l0.length l0) (hc0 : l0.length ≤ c0) (hbig : l0.length < 4611686018427387904)
    (hp : ∀ (W : World) (i : Nat) (b : Bool), Below w.heap.size w W → i < l0.length → q (rd_T27 l0 (i : Int)) = some b → Calls Tryd.prog g (#[.agg #[.int .i64 (rd_T27 l0 (i : Int)).f0, .int .i64 (rd_T27 l0 (i : Int)).f1, .int .i64 (rd_T27 l0 (i : Int)).f2, .int .i64 (rd_T27 l0 (i : Int)).f3, .int .i64 (rd_T27 l0 (i : Int)).f4, .string (rd_T27 l0 (i : Int)).f5]] ++ lb) W fun e w' => e = .returned (.bool b) ∧ Below w.heap.size w w')
    (h : Go.Proofs.YtmipaoobkjppdaaDoor.Func.idxO q l0 0 = some r) : Calls Tryd.prog 116 #[.slice A0 l0.length c0, .func (.func g) #[] lb] w fun e w' => e = .returned (.int .i64 r) ∧ Below w.heap.size w w' := by
  have hu27 := Tryd.underlying27
  have HR0 := Aside0.mk hr0
  have HC0 := Aside0.mk hc0
  have HP := Aside0.mk hp
  have LB := Aside0.mk hbig
  clear hbig
  have HA0 := Aside0.mk h
  clear hr0 hc0 hp h
  go_enter Tryd.func116, Tryd.ntmps116
  go_wp2
  go_loopg [5, 8] l0.length (fun kq _ v8 w' => ∃ kk : Nat, v8 = .int .i64 (kk : Int) ∧ Aside0 (kk ≤ l0.length ∧ l0.length - kk ≤ kq) ∧ Aside0 (Go.Proofs.YtmipaoobkjppdaaDoor.Func.idxO q (l0.drop kk) (kk : Int) = some r) ∧ Aside0 (Below w.heap.size w w'))
  case atStart => exact ⟨0, rfl, ⟨by omega, by omega⟩, ⟨HA0.out⟩, ⟨Below.refl _ _⟩⟩
  case round =>
    clear HA0
    obtain ⟨kk, rfl, HK, HA, HB⟩ := hrel
    by_cases hkl : kk < l0.length
    · have cq1 : (kk : Int) < (l0.length : Int) := by omega
      have c0_ : (0 : Int) ≤ (kk : Int) := by omega
      have c1b : decide ((kk : Int) < (l0.length : Int)) = true := decide_eq_true cq1
      have hkn : 0 < gk := by have := HK.out; omega
      obtain ⟨ad, e0, hx0, hx1, hx2, hx3, hx4, hx5⟩ := at_T27 HR0.out (kk : Int) c0_ cq1
      cases e0
      replace hx0 := (HB.out.cell (World.block_lt_of_cell? w _ hx0)).trans hx0
      simp only [Int.toNat_natCast] at hx0
      replace hx1 := (HB.out.cell (World.block_lt_of_cell? w _ hx1)).trans hx1
      simp only [Int.toNat_natCast] at hx1
      replace hx2 := (HB.out.cell (World.block_lt_of_cell? w _ hx2)).trans hx2
      simp only [Int.toNat_natCast] at hx2
      replace hx3 := (HB.out.cell (World.block_lt_of_cell? w _ hx3)).trans hx3
      simp only [Int.toNat_natCast] at hx3
      replace hx4 := (HB.out.cell (World.block_lt_of_cell? w _ hx4)).trans hx4
      simp only [Int.toNat_natCast] at hx4
      replace hx5 := (HB.out.cell (World.block_lt_of_cell? w _ hx5)).trans hx5
      simp only [Int.toNat_natCast] at hx5
      have HA1 := HA.out
      rw [Go.Proofs.YtmipaoobkjppdaaDoor.Func.idxO_step q l0 z27 kk hkl] at HA1
      obtain ⟨b, hb0, HA2⟩ := Option.bind_eq_some_iff.mp HA1
      clear HA1 HA
      have hcall := HP.out wr kk b  HB.out hkl  hb0
      have cq0b := eq_true c0_
      have c1c := eq_true cq1
      have HL := Aside0.mk hkl
      clear hkl cq1 c0_ hb0 
      cases b with
      | true =>
        have hr : (kk : Int) = r := Option.some.inj HA2
        subst hr
        clear HA2
        go_wp2_with (go_at_fn g; refine hcall.mono ?_; rintro e w' ⟨rfl, hb'⟩)
        go_ret
        exact ⟨rfl, hb'⟩
      | false =>
        have HA := Aside0.mk HA2
        clear HA2
        go_wp2_with (go_at_fn g; refine hcall.mono ?_; rintro e w' ⟨rfl, hb'⟩)
        have ew : wrap64 ((kk : Int) + 1) = ((kk + 1 : Nat) : Int) := by have h1 := HL.out; have h2 := LB.out; unfold wrap64; omega
        go_roundg (gk - 1)
        case measure => omega
        case rel => exact ⟨kk + 1, by rw [ew], ⟨by have := HK.out; have := HL.out; omega⟩, ⟨HA.out⟩, ⟨hb'⟩⟩
    · have hk : kk = l0.length := by have := HK.out.1; omega
      subst hk
      have c1b : decide ((l0.length : Int) < (l0.length : Int)) = false := decide_eq_false (by omega)
      have hr : (-1 : Int) = r := by
        have h1 := HA.out
        rw [List.drop_length] at h1
        exact Option.some.inj h1
      subst hr
      go_wp2
      go_ret
      exact ⟨rfl, HB.out⟩


/-! ### impl_Instr_99: function 99 (by hand) -/
set_option maxHeartbeats 8000000 in
set_option maxRecDepth 100000 in
theorem impl_Instr_99.at (g : Nat) (lb : Array Value) (eg : ∀ args w, (callFunc g args).run Tryd.prog w = .ok (.enter g args) w) (q : S27 → Option Bool) (A0 : Option Addr) (c0 : Nat) (l0 : List S27) (r : Int) (w : World) (hr0 : Kd.C k27 w A0 l0.length l0) (hc0 : l0.length ≤ c0) (hbig : l0.length < 4611686018427387904)
    (hp : ∀ (W : World) (i : Nat) (b : Bool), Below w.heap.size w W → i < l0.length → q (rd_T27 l0 (i : Int)) = some b → Calls Tryd.prog g (#[.agg #[.int .i64 (rd_T27 l0 (i : Int)).f0, .int .i64 (rd_T27 l0 (i : Int)).f1, .int .i64 (rd_T27 l0 (i : Int)).f2, .int .i64 (rd_T27 l0 (i : Int)).f3, .int .i64 (rd_T27 l0 (i : Int)).f4, .string (rd_T27 l0 (i : Int)).f5]] ++ lb) W fun e w' => e = .returned (.bool b) ∧ Below w.heap.size w w')
    (h : Go.Proofs.YtmipaoobkjppdaaDoor.Func.idxO q l0 0 = some r) : Calls Tryd.prog 99 #[.slice A0 l0.length c0, .func (.func g) #[] lb] w fun e w' => e = .returned (.bool (decide (r ≥ 0))) ∧ Below w.heap.size w w' := by
  have hcall := impl_Instr_116.at g lb eg q A0 c0 l0 r w hr0 hc0 hbig hp h
  clear hr0 hc0 hbig hp h
  have e116 : ∀ args w, (callFunc 116 args).run Tryd.prog w = .ok (.enter 116 args) w := enters_of Tryd.func116 (by kernel_rfl) rfl
  go_enter Tryd.func99, Tryd.ntmps99
  go_wp2_with (go_at_fn 116; refine hcall.mono ?_; rintro e w' ⟨rfl, hb'⟩)
  go_ret
  exact ⟨rfl, hb'⟩


/-! ### impl_isMethod_1: function 100 -/
def impl_isMethod_1.f (k : Nat) (a0_0 : Int) (a0_1 : Int) (a0_2 : Int) (a0_3 : Int) (a0_4 : Int) (a0_5 : ByteArray) : Option (Bool) := (impl_isInstr.f k a0_0 a0_1 a0_2 a0_3 a0_4 a0_5).bind fun t239 => (some (!t239))
theorem impl_isMethod_1.mono : ∀ a0 a1 a2 a3 a4 a5 k, LeO (impl_isMethod_1.f k a0 a1 a2 a3 a4 a5) (impl_isMethod_1.f (k + 1) a0 a1 a2 a3 a4 a5) := by
  intro a0 a1 a2 a3 a4 a5 k
  unfold impl_isMethod_1.f
  repeat' first
      | (with_reducible exact impl_isInstr.mono _ _ _ _ _ _ _)
      | (with_reducible exact LeO.refl _)
      | (with_reducible exact LeO.none _)
      | (with_reducible refine LeO.ite ?_ ?_)
      | (with_reducible refine LeO.bind ?_ (fun _ => ?_))
      | exact impl_isInstr.mono _ _ _ _ _ _ _
      | exact LeO.none _
      | refine LeO.ite ?_ ?_
      | refine LeO.bind ?_ (fun _ => ?_)
set_option maxHeartbeats 8000000 in
set_option maxRecDepth 100000 in
theorem impl_isMethod_1.calls (k : Nat) (a0_0 : Int) (a0_1 : Int) (a0_2 : Int) (a0_3 : Int) (a0_4 : Int) (a0_5 : ByteArray) (r : Bool) (w : World) (h : impl_isMethod_1.f k a0_0 a0_1 a0_2 a0_3 a0_4 a0_5 = some r) :
    Calls Tryd.prog 100 #[.agg #[.int .i64 a0_0, .int .i64 a0_1, .int .i64 a0_2, .int .i64 a0_3, .int .i64 a0_4, .string a0_5]] w fun e w' => e = .returned (.bool r) ∧ Below w.heap.size w w' := by
  have hu27 := Tryd.underlying27
  have HB := Aside0.mk (Below.refl w.heap.size w)
  have H : ((impl_isInstr.f k a0_0 a0_1 a0_2 a0_3 a0_4 a0_5).bind fun t239 => (some (!t239))) = some r := h
  clear h
  replace H := Option.bind_eq_some_iff.mp H
  obtain ⟨t239, A20, H⟩ := H
  replace H : (some (!t239)) = some r := H
  have A2 := Aside0.mk A20
  clear A20
  obtain rfl := Option.some.inj H
  go_enter Tryd.func100, Tryd.ntmps100
  go_wp2_with (first | ((with_reducible refine gate_dst (N := 1) rfl ?_); refine box_event ?hg (N := 1) ?hd (cs := #[.int .i64 a0_0, .int .i64 a0_1, .int .i64 a0_2, .int .i64 a0_3, .int .i64 a0_4, .string a0_5]) (t := 27) ?hr ?_; (case hd => rfl); (case hg => rfl); (case hr => first | (go_simp; done) | (go_simp; rfl)); intro gb238 hg w3 hbox hb; have n0_ := Aside0.mk (below_step (by repeat (first | (with_reducible first | exact HB.out | apply below_alloc | apply pw_below_drewN | apply below_drew1) | exact HB.out)) hb); have n1_ := Aside0.mk (hbox); have n2_ := Aside0.mk ((by rw [hg]; exact (below_size (by repeat (first | (with_reducible first | exact HB.out | apply below_alloc | apply pw_below_drewN | apply below_drew1) | exact HB.out))) : w.heap.size ≤ gb238)); have n3_ := Aside0.mk ((by rw [hg]; exact (below_size (by repeat (first | (with_reducible first | exact HB.out | apply below_alloc | apply pw_below_drewN | apply below_drew1) | exact HB.out))) : w.heap.size ≤ gb238)); clear HB; have HB := n0_; have BK238 := n1_; have GW238 := n2_; have GE238 := n3_; clear n0_ n1_ n2_ n3_; clear hb hbox hg; have hcz4_0 : w3.cell? ⟨gb238, 0, none⟩ = some (.int .i64 a0_0) := (blk_cell BK238.out 0).trans rfl; have hcz4_1 : w3.cell? ⟨gb238, 1, none⟩ = some (.int .i64 a0_1) := (blk_cell BK238.out 1).trans rfl; have hcz4_2 : w3.cell? ⟨gb238, 2, none⟩ = some (.int .i64 a0_2) := (blk_cell BK238.out 2).trans rfl; have hcz4_3 : w3.cell? ⟨gb238, 3, none⟩ = some (.int .i64 a0_3) := (blk_cell BK238.out 3).trans rfl; have hcz4_4 : w3.cell? ⟨gb238, 4, none⟩ = some (.int .i64 a0_4) := (blk_cell BK238.out 4).trans rfl; have hcz4_5 : w3.cell? ⟨gb238, 5, none⟩ = some (.string a0_5) := (blk_cell BK238.out 5).trans rfl; have hfz4_0 := blk_frozen BK238.out 0; have hfz4_1 := blk_frozen BK238.out 1; have hfz4_2 := blk_frozen BK238.out 2; have hfz4_3 := blk_frozen BK238.out 3; have hfz4_4 := blk_frozen BK238.out 4; have hfz4_5 := blk_frozen BK238.out 5) | ((with_reducible refine gate_callee (f := 43) rfl ?_); refine goesL_ (some 4) rfl rfl Tryd.func43 (by kernel_rfl) rfl #[.agg #[.int .i64 a0_0, .int .i64 a0_1, .int .i64 a0_2, .int .i64 a0_3, .int .i64 a0_4, .string a0_5]] rfl (by (try simp only [List.map_toArray, List.map_cons, List.map_nil]); first | done | rfl | (simp only [List.length_drop, List.length_take]; rfl)) ?_; (with_reducible refine (impl_isInstr.calls k a0_0 a0_1 a0_2 a0_3 a0_4 a0_5 t239 _ A2.out).mono ?_); rintro e w5 ⟨rfl, hb⟩; refine ⟨_, rfl, ?_⟩; have n0_ := Aside0.mk (blk_below (g := gb238) (o := .cells #[.int .i64 a0_0, .int .i64 a0_1, .int .i64 a0_2, .int .i64 a0_3, .int .i64 a0_4, .string a0_5] 27 (0, 0)) (by (with_reducible repeat (first | refine blk_drewN ?_ _ | refine blk_drew ?_ | refine blk_alloc ?_ _)); exact BK238.out) hb); have n1_ := Aside0.mk (below_step (by repeat (first | (with_reducible first | exact HB.out | apply below_alloc | apply pw_below_drewN | apply below_drew1 | refine below_set ?_ GE238.out) | exact HB.out)) hb); clear BK238; clear HB; have BK238 := n0_; have HB := n1_; clear n0_ n1_; (try clear hb); (try clear hb2); (try clear hk); (try clear hi)))
  go_ret
  exact ⟨by first | rfl | (simp [errW_none, errW_some] <;> rfl) | (simp [*, errW_none, errW_some] <;> rfl), by repeat (first | (with_reducible first | exact HB.out | apply below_alloc | apply pw_below_drewN | apply below_drew1 | refine below_set ?_ GE238.out) | exact HB.out)⟩

/-! ### impl_isMethod: function 80 (by hand) -/
def impl_isMethod.f (k : Nat) (a0_0 : ByteArray) (l0_1 : List S27) : Option (Bool) := (impl_isName.f k a0_0).bind fun t => if t = true then (if (l0_1.length : Int) ≤ 12 then ((Go.Proofs.YtmipaoobkjppdaaDoor.Func.idxO (fun x : S27 => impl_isMethod_1.f k x.f0 x.f1 x.f2 x.f3 x.f4 x.f5) l0_1 0).bind fun t2 => some (!(decide (t2 ≥ 0)))) else some false) else some false
theorem impl_isMethod.mono : ∀ a0 a1 k, LeO (impl_isMethod.f k a0 a1) (impl_isMethod.f (k + 1) a0 a1) := by
  intro a0 a1 k
  unfold impl_isMethod.f
  exact LeO.bind (impl_isName.mono _ _) fun _ => LeO.ite (LeO.ite (LeO.bind (Go.Proofs.YtmipaoobkjppdaaDoor.Func.idxO_mono (fun x => impl_isMethod_1.mono _ _ _ _ _ _ _) _ _) fun _ => LeO.refl _) (LeO.refl _)) (LeO.refl _)
set_option maxHeartbeats 8000000 in
set_option maxRecDepth 100000 in
theorem impl_isMethod.calls (k : Nat) (a0_0 : ByteArray) (A0_1 : Option Addr) (c0_1 : Nat) (l0_1 : List (S27)) (r : Bool) (w : World) (hr0_1 : Kd.C k27 w A0_1 l0_1.length l0_1) (hc0_1 : l0_1.length ≤ c0_1) (h : impl_isMethod.f k a0_0 l0_1 = some r) :
    Calls Tryd.prog 80 #[.agg #[.string a0_0, .slice A0_1 l0_1.length c0_1]] w fun e w' => e = .returned (.bool r) ∧ Below w.heap.size w w' := by
  have hu72 := Tryd.underlying72
  have hu27 := Tryd.underlying27
  have e100 : ∀ args w, (callFunc 100 args).run Tryd.prog w = .ok (.enter 100 args) w := enters_of Tryd.func100 (by kernel_rfl) rfl
  have HR0_1 := Aside0.mk hr0_1
  have HC0_1 := Aside0.mk hc0_1
  clear hr0_1 hc0_1
  have HB := Aside0.mk (Below.refl w.heap.size w)
  unfold impl_isMethod.f at h
  obtain ⟨t, At, H⟩ := Option.bind_eq_some_iff.mp h
  clear h
  have A1 := Aside0.mk At
  clear At
  cases t with
  | false =>
    obtain rfl := Option.some.inj H
    clear H
    go_enter Tryd.func80, Tryd.ntmps80
    go_wp2_with (first | ((with_reducible refine gate_dst (N := 1) rfl ?_); (try (refine gate_guard (by rfl) ?_; dsimp only)); refine box_event ?hg (N := 1) ?hd (cs := #[.string a0_0, .slice A0_1 l0_1.length c0_1]) (t := 72) ?hr ?_; (case hd => rfl); (case hg => rfl); (case hr => first | (go_simp; done) | (go_simp; rfl)); intro gb1 hg w1 hbox hb; have n0_ := Aside0.mk (below_step (by repeat (first | (with_reducible first | exact HB.out | apply below_alloc | apply pw_below_drewN | apply below_drew1) | exact HB.out)) hb); have n1_ := Aside0.mk (hbox); have n2_ := Aside0.mk ((by rw [hg]; exact (below_size (by repeat (first | (with_reducible first | exact HB.out | apply below_alloc | apply pw_below_drewN | apply below_drew1) | exact HB.out)))) : w.heap.size ≤ gb1); clear HB; have HB := n0_; have BK := n1_; have GE := n2_; clear n0_ n1_ n2_; clear hb hbox hg; have hcz_0 : w1.cell? ⟨gb1, 0, none⟩ = some (.string a0_0) := (blk_cell BK.out 0).trans rfl; have hfz_0 := blk_frozen BK.out 0; have hcz_1 : w1.cell? ⟨gb1, 1, none⟩ = some (.slice A0_1 l0_1.length c0_1) := (blk_cell BK.out 1).trans rfl; have hfz_1 := blk_frozen BK.out 1) | (go_at_call 73; (with_reducible refine (impl_isName.calls k a0_0 false _ A1.out).mono ?_); rintro e w' ⟨rfl, ⟨nd, rfl⟩⟩))
    go_ret
    exact ⟨by first | rfl | (simp; done), by repeat (first | (with_reducible first | exact HB.out | apply below_alloc | apply pw_below_drewN | apply below_drew1 | refine below_set ?_ GE.out) | exact HB.out)⟩
  | true =>
    rw [if_pos rfl] at H
    by_cases c : (l0_1.length : Int) ≤ 12
    · rw [if_pos c] at H
      have cb : decide ((l0_1.length : Int) ≤ 12) = true := decide_eq_true c
      have LB := Aside0.mk c
      clear c
      obtain ⟨t2, At2, H2⟩ := Option.bind_eq_some_iff.mp H
      clear H
      have A2 := Aside0.mk At2
      clear At2
      obtain rfl := Option.some.inj H2
      clear H2
      go_enter Tryd.func80, Tryd.ntmps80
      go_wp2_with (first | ((with_reducible refine gate_dst (N := 1) rfl ?_); (try (refine gate_guard (by rfl) ?_; dsimp only)); refine box_event ?hg (N := 1) ?hd (cs := #[.string a0_0, .slice A0_1 l0_1.length c0_1]) (t := 72) ?hr ?_; (case hd => rfl); (case hg => rfl); (case hr => first | (go_simp; done) | (go_simp; rfl)); intro gb1 hg w1 hbox hb; have n0_ := Aside0.mk (below_step (by repeat (first | (with_reducible first | exact HB.out | apply below_alloc | apply pw_below_drewN | apply below_drew1) | exact HB.out)) hb); have n1_ := Aside0.mk (hbox); have n2_ := Aside0.mk ((by rw [hg]; exact (below_size (by repeat (first | (with_reducible first | exact HB.out | apply below_alloc | apply pw_below_drewN | apply below_drew1) | exact HB.out)))) : w.heap.size ≤ gb1); clear HB; have HB := n0_; have BK := n1_; have GE := n2_; clear n0_ n1_ n2_; clear hb hbox hg; have hcz_0 : w1.cell? ⟨gb1, 0, none⟩ = some (.string a0_0) := (blk_cell BK.out 0).trans rfl; have hfz_0 := blk_frozen BK.out 0; have hcz_1 : w1.cell? ⟨gb1, 1, none⟩ = some (.slice A0_1 l0_1.length c0_1) := (blk_cell BK.out 1).trans rfl; have hfz_1 := blk_frozen BK.out 1) | (go_at_call 73; (with_reducible refine (impl_isName.calls k a0_0 true _ A1.out).mono ?_); rintro e w' ⟨rfl, ⟨nd, rfl⟩⟩) | (go_at_call 99; refine (impl_Instr_99.at 100 #[] e100 (fun x : S27 => impl_isMethod_1.f k x.f0 x.f1 x.f2 x.f3 x.f4 x.f5) A0_1 c0_1 l0_1 t2 _ ?hr HC0_1.out ?hl ?hp A2.out).mono ?_; (case hr => exact Kd.C_below HR0_1.out (by repeat (first | (with_reducible first | exact HB.out | apply below_alloc | apply pw_below_drewN | apply below_drew1 | refine below_set ?_ GE.out) | exact HB.out))); (case hl => have := LB.out; omega); (case hp => intro W i b hb hi hq; rw [Array.append_empty]; refine (impl_isMethod_1.calls k (rd_T27 l0_1 (i : Int)).f0 (rd_T27 l0_1 (i : Int)).f1 (rd_T27 l0_1 (i : Int)).f2 (rd_T27 l0_1 (i : Int)).f3 (rd_T27 l0_1 (i : Int)).f4 (rd_T27 l0_1 (i : Int)).f5 b W hq).mono ?_; rintro e w' ⟨rfl, hb'⟩; exact ⟨rfl, below_step hb hb'⟩); rintro e w' ⟨rfl, hb'⟩; have n0_ := Aside0.mk (below_step (by repeat (first | (with_reducible first | exact HB.out | apply below_alloc | apply pw_below_drewN | apply below_drew1 | refine below_set ?_ GE.out) | exact HB.out)) hb'); clear HB; have HB := n0_; clear n0_ hb'))
      go_ret
      exact ⟨by first | rfl | (simp; done), by repeat (first | (with_reducible first | exact HB.out | apply below_alloc | apply pw_below_drewN | apply below_drew1 | refine below_set ?_ GE.out) | exact HB.out)⟩
    · rw [if_neg c] at H
      have cb : decide ((l0_1.length : Int) ≤ 12) = false := decide_eq_false c
      clear c
      obtain rfl := Option.some.inj H
      clear H
      go_enter Tryd.func80, Tryd.ntmps80
      go_wp2_with (first | ((with_reducible refine gate_dst (N := 1) rfl ?_); (try (refine gate_guard (by rfl) ?_; dsimp only)); refine box_event ?hg (N := 1) ?hd (cs := #[.string a0_0, .slice A0_1 l0_1.length c0_1]) (t := 72) ?hr ?_; (case hd => rfl); (case hg => rfl); (case hr => first | (go_simp; done) | (go_simp; rfl)); intro gb1 hg w1 hbox hb; have n0_ := Aside0.mk (below_step (by repeat (first | (with_reducible first | exact HB.out | apply below_alloc | apply pw_below_drewN | apply below_drew1) | exact HB.out)) hb); have n1_ := Aside0.mk (hbox); have n2_ := Aside0.mk ((by rw [hg]; exact (below_size (by repeat (first | (with_reducible first | exact HB.out | apply below_alloc | apply pw_below_drewN | apply below_drew1) | exact HB.out)))) : w.heap.size ≤ gb1); clear HB; have HB := n0_; have BK := n1_; have GE := n2_; clear n0_ n1_ n2_; clear hb hbox hg; have hcz_0 : w1.cell? ⟨gb1, 0, none⟩ = some (.string a0_0) := (blk_cell BK.out 0).trans rfl; have hfz_0 := blk_frozen BK.out 0; have hcz_1 : w1.cell? ⟨gb1, 1, none⟩ = some (.slice A0_1 l0_1.length c0_1) := (blk_cell BK.out 1).trans rfl; have hfz_1 := blk_frozen BK.out 1) | (go_at_call 73; (with_reducible refine (impl_isName.calls k a0_0 true _ A1.out).mono ?_); rintro e w' ⟨rfl, ⟨nd, rfl⟩⟩))
      go_ret
      exact ⟨by first | rfl | (simp; done), by repeat (first | (with_reducible first | exact HB.out | apply below_alloc | apply pw_below_drewN | apply below_drew1 | refine below_set ?_ GE.out) | exact HB.out)⟩


/-! ### impl_Method_101: function 101 (by hand) -/
set_option maxHeartbeats 8000000 in
set_option maxRecDepth 100000 in
theorem impl_Method_101.at (g : Nat) (lb : Array Value) (eg : ∀ args w, (callFunc g args).run Tryd.prog w = .ok (.enter g args) w) (q : S72 → Option Bool) (A0 : Option Addr) (c0 : Nat) (l0 : List S72) (r : Int) (w : World) (hr0 : Kd.C k72 w A0 l0.length l0) (hc0 : l0.length ≤ c0) (hbig : l0.length < 4611686018427387904)
    (hp : ∀ (W : World) (i : Nat) (b : Bool) (A1 : Option Addr) (c1 : Nat), Below w.heap.size w W → i < l0.length → (rd_T72 l0 (i : Int)).f1.length ≤ c1 → Kd.C k27 w A1 (rd_T72 l0 (i : Int)).f1.length (rd_T72 l0 (i : Int)).f1 → q (rd_T72 l0 (i : Int)) = some b → Calls Tryd.prog g (#[.agg #[.string (rd_T72 l0 (i : Int)).f0, .slice A1 (rd_T72 l0 (i : Int)).f1.length c1]] ++ lb) W fun e w' => e = .returned (.bool b) ∧ Below w.heap.size w w')
    (h : Go.Proofs.YtmipaoobkjppdaaDoor.Func.idxO q l0 0 = some r) : Calls Tryd.prog 101 #[.slice A0 l0.length c0, .func (.func g) #[] lb] w fun e w' => e = .returned (.int .i64 r) ∧ Below w.heap.size w w' := by
  have hu72 := Tryd.underlying72
  have HR0 := Aside0.mk hr0
  have HC0 := Aside0.mk hc0
  have HP := Aside0.mk hp
  have LB := Aside0.mk hbig
  clear hbig
  have HA0 := Aside0.mk h
  clear hr0 hc0 hp h
  go_enter Tryd.func101, Tryd.ntmps101
  go_wp2
  go_loopg [5, 8] l0.length (fun kq _ v8 w' => ∃ kk : Nat, v8 = .int .i64 (kk : Int) ∧ Aside0 (kk ≤ l0.length ∧ l0.length - kk ≤ kq) ∧ Aside0 (Go.Proofs.YtmipaoobkjppdaaDoor.Func.idxO q (l0.drop kk) (kk : Int) = some r) ∧ Aside0 (Below w.heap.size w w'))
  case atStart => exact ⟨0, rfl, ⟨by omega, by omega⟩, ⟨HA0.out⟩, ⟨Below.refl _ _⟩⟩
  case round =>
    clear HA0
    obtain ⟨kk, rfl, HK, HA, HB⟩ := hrel
    by_cases hkl : kk < l0.length
    · have cq1 : (kk : Int) < (l0.length : Int) := by omega
      have c0_ : (0 : Int) ≤ (kk : Int) := by omega
      have c1b : decide ((kk : Int) < (l0.length : Int)) = true := decide_eq_true cq1
      have hkn : 0 < gk := by have := HK.out; omega
      obtain ⟨ad, A1, c1, e0, hx0, hx1, hl1, hC1⟩ := at_T72 HR0.out (kk : Int) c0_ cq1
      cases e0
      replace hx0 := (HB.out.cell (World.block_lt_of_cell? w _ hx0)).trans hx0
      simp only [Int.toNat_natCast] at hx0
      replace hx1 := (HB.out.cell (World.block_lt_of_cell? w _ hx1)).trans hx1
      simp only [Int.toNat_natCast] at hx1
      have HA1 := HA.out
      rw [Go.Proofs.YtmipaoobkjppdaaDoor.Func.idxO_step q l0 z72 kk hkl] at HA1
      obtain ⟨b, hb0, HA2⟩ := Option.bind_eq_some_iff.mp HA1
      clear HA1 HA
      have hcall := HP.out wr kk b A1 c1 HB.out hkl hl1 hC1 hb0
      have cq0b := eq_true c0_
      have c1c := eq_true cq1
      have HL := Aside0.mk hkl
      clear hkl cq1 c0_ hb0 hl1 hC1
      cases b with
      | true =>
        have hr : (kk : Int) = r := Option.some.inj HA2
        subst hr
        clear HA2
        go_wp2_with (go_at_fn g; refine hcall.mono ?_; rintro e w' ⟨rfl, hb'⟩)
        go_ret
        exact ⟨rfl, hb'⟩
      | false =>
        have HA := Aside0.mk HA2
        clear HA2
        go_wp2_with (go_at_fn g; refine hcall.mono ?_; rintro e w' ⟨rfl, hb'⟩)
        have ew : wrap64 ((kk : Int) + 1) = ((kk + 1 : Nat) : Int) := by have h1 := HL.out; have h2 := LB.out; unfold wrap64; omega
        go_roundg (gk - 1)
        case measure => omega
        case rel => exact ⟨kk + 1, by rw [ew], ⟨by have := HK.out; have := HL.out; omega⟩, ⟨HA.out⟩, ⟨hb'⟩⟩
    · have hk : kk = l0.length := by have := HK.out.1; omega
      subst hk
      have c1b : decide ((l0.length : Int) < (l0.length : Int)) = false := decide_eq_false (by omega)
      have hr : (-1 : Int) = r := by
        have h1 := HA.out
        rw [List.drop_length] at h1
        exact Option.some.inj h1
      subst hr
      go_wp2
      go_ret
      exact ⟨rfl, HB.out⟩


/-! ### impl_Method_81: function 81 (by hand) -/
set_option maxHeartbeats 8000000 in
set_option maxRecDepth 100000 in
theorem impl_Method_81.at (g : Nat) (lb : Array Value) (eg : ∀ args w, (callFunc g args).run Tryd.prog w = .ok (.enter g args) w) (q : S72 → Option Bool) (A0 : Option Addr) (c0 : Nat) (l0 : List S72) (r : Int) (w : World) (hr0 : Kd.C k72 w A0 l0.length l0) (hc0 : l0.length ≤ c0) (hbig : l0.length < 4611686018427387904)
    (hp : ∀ (W : World) (i : Nat) (b : Bool) (A1 : Option Addr) (c1 : Nat), Below w.heap.size w W → i < l0.length → (rd_T72 l0 (i : Int)).f1.length ≤ c1 → Kd.C k27 w A1 (rd_T72 l0 (i : Int)).f1.length (rd_T72 l0 (i : Int)).f1 → q (rd_T72 l0 (i : Int)) = some b → Calls Tryd.prog g (#[.agg #[.string (rd_T72 l0 (i : Int)).f0, .slice A1 (rd_T72 l0 (i : Int)).f1.length c1]] ++ lb) W fun e w' => e = .returned (.bool b) ∧ Below w.heap.size w w')
    (h : Go.Proofs.YtmipaoobkjppdaaDoor.Func.idxO q l0 0 = some r) : Calls Tryd.prog 81 #[.slice A0 l0.length c0, .func (.func g) #[] lb] w fun e w' => e = .returned (.bool (decide (r ≥ 0))) ∧ Below w.heap.size w w' := by
  have hcall := impl_Method_101.at g lb eg q A0 c0 l0 r w hr0 hc0 hbig hp h
  clear hr0 hc0 hbig hp h
  have e101 : ∀ args w, (callFunc 101 args).run Tryd.prog w = .ok (.enter 101 args) w := enters_of Tryd.func101 (by kernel_rfl) rfl
  go_enter Tryd.func81, Tryd.ntmps81
  go_wp2_with (go_at_fn 101; refine hcall.mono ?_; rintro e w' ⟨rfl, hb'⟩)
  go_ret
  exact ⟨rfl, hb'⟩


/-! ### impl_isScript_1: function 82 (by hand) -/
-- told at isScript

/-! ### impl_isScript: function 53 (by hand) -/
def impl_isScript.l0 (k : Nat) (l : List S72) : Nat → Option Bool
  | 0 => some true
  | d + 1 => (impl_isMethod.f k (rd_T72 l ((l.length : Int) - ((d + 1 : Nat) : Int))).f0 (rd_T72 l ((l.length : Int) - ((d + 1 : Nat) : Int))).f1).bind fun t => if t = true then ((Go.Proofs.YtmipaoobkjppdaaDoor.Func.idxO (fun y : S72 => some (y.f0.toList == (rd_T72 l ((l.length : Int) - ((d + 1 : Nat) : Int))).f0.toList)) (l.take ((l.length : Int) - ((d + 1 : Nat) : Int)).toNat) 0).bind fun r => if r ≥ 0 then some false else impl_isScript.l0 k l d) else some false
def impl_isScript.f (k : Nat) (a0_0 : ByteArray) (l0_1 : List S72) : Option (Bool) := (impl_isName.f k a0_0).bind fun t => if t = true then (if (l0_1.length : Int) > 4 then some false else impl_isScript.l0 k l0_1 l0_1.length) else some false
theorem impl_isScript.mono_l (l : List S72) (k : Nat) : ∀ d, LeO (impl_isScript.l0 k l d) (impl_isScript.l0 (k + 1) l d)
  | 0 => LeO.refl _
  | d + 1 => by
    unfold impl_isScript.l0
    exact LeO.bind (impl_isMethod.mono _ _ _) fun _ => LeO.ite (LeO.bind (LeO.refl _) fun _ => LeO.ite (LeO.refl _) (impl_isScript.mono_l l k d)) (LeO.refl _)
theorem impl_isScript.mono : ∀ a0 a1 k, LeO (impl_isScript.f k a0 a1) (impl_isScript.f (k + 1) a0 a1) := by
  intro a0 a1 k
  unfold impl_isScript.f
  exact LeO.bind (impl_isName.mono _ _) fun _ => LeO.ite (LeO.ite (LeO.refl _) (impl_isScript.mono_l _ _ _)) (LeO.refl _)
set_option maxHeartbeats 8000000 in
set_option maxRecDepth 100000 in
theorem impl_isScript_1.at (a0 : ByteArray) (A1 : Option Addr) (n1 c1 : Nat) (gb : Nat) (nm : ByteArray) (v1 : Value) (w : World) (hcb : w.heap[gb]? = some (.cells #[.string nm, v1] 72 (0, 0))) :
    Calls Tryd.prog 82 #[.agg #[.string a0, .slice A1 n1 c1], .pointer (some ⟨gb, 0, none⟩)] w fun e w' => e = .returned (.bool (a0.toList == nm.toList)) ∧ Below w.heap.size w w' := by
  have hu72 := Tryd.underlying72
  have CB := Aside0.mk hcb
  clear hcb
  have HB := Aside0.mk (Below.refl w.heap.size w)
  go_enter Tryd.func82, Tryd.ntmps82
  go_wp2_with (first | ((with_reducible refine gate_dst (N := 2) rfl ?_); (try (refine gate_guard (by rfl) ?_; dsimp only)); refine box_event ?hg (N := 2) ?hd (cs := #[.string a0, .slice A1 n1 c1]) (t := 72) ?hr ?_; (case hd => rfl); (case hg => rfl); (case hr => first | (go_simp; done) | (go_simp; rfl)); intro gb1 hg w1 hbox hb; have n0_ := Aside0.mk (below_step (by repeat (first | (with_reducible first | exact HB.out | apply below_alloc | apply pw_below_drewN | apply below_drew1) | exact HB.out)) hb); have n1_ := Aside0.mk (hbox); have n2_ := Aside0.mk ((by rw [hg]; exact (below_size (by repeat (first | (with_reducible first | exact HB.out | apply below_alloc | apply pw_below_drewN | apply below_drew1) | exact HB.out)))) : w.heap.size ≤ gb1); clear HB; have HB := n0_; have BK := n1_; have GE := n2_; clear n0_ n1_ n2_; have CB2 := Aside0.mk (blk_below CB.out hb); clear CB; have CB := CB2; clear CB2; clear hb hbox hg; have hcz_0 : w1.cell? ⟨gb1, 0, none⟩ = some (.string a0) := (blk_cell BK.out 0).trans rfl; have hfz_0 := blk_frozen BK.out 0; have hcz_1 : w1.cell? ⟨gb1, 1, none⟩ = some (.slice A1 n1 c1) := (blk_cell BK.out 1).trans rfl; have hfz_1 := blk_frozen BK.out 1; have hcy_0 : w1.cell? ⟨gb, 0, none⟩ = some (.string nm) := (blk_cell CB.out 0).trans rfl; have hfy_0 := blk_frozen CB.out 0))
  go_ret
  exact ⟨by first | rfl | (simp; done), by repeat (first | (with_reducible first | exact HB.out | apply below_alloc | apply pw_below_drewN | apply below_drew1 | refine below_set ?_ GE.out) | exact HB.out)⟩
set_option maxHeartbeats 8000000 in
set_option maxRecDepth 100000 in
theorem impl_isScript.calls (k : Nat) (a0_0 : ByteArray) (A0_1 : Option Addr) (c0_1 : Nat) (l0_1 : List (S72)) (r : Bool) (w : World) (hr0_1 : Kd.C k72 w A0_1 l0_1.length l0_1) (hc0_1 : l0_1.length ≤ c0_1) (h : impl_isScript.f k a0_0 l0_1 = some r) :
    Calls Tryd.prog 53 #[.agg #[.string a0_0, .slice A0_1 l0_1.length c0_1]] w fun e w' => e = .returned (.bool r) ∧ Below w.heap.size w w' := by
  have hu46 := Tryd.underlying46
  have hu72 := Tryd.underlying72
  have e82 : ∀ args w, (callFunc 82 args).run Tryd.prog w = .ok (.enter 82 args) w := enters_of Tryd.func82 (by kernel_rfl) rfl
  have HR0 := Aside0.mk hr0_1
  have HC0 := Aside0.mk hc0_1
  clear hr0_1 hc0_1
  have HB := Aside0.mk (Below.refl w.heap.size w)
  unfold impl_isScript.f at h
  obtain ⟨t, At, H⟩ := Option.bind_eq_some_iff.mp h
  clear h
  have A1 := Aside0.mk At
  clear At
  cases t with
  | false =>
    obtain rfl := Option.some.inj H
    clear H
    go_enter Tryd.func53, Tryd.ntmps53
    go_wp2_with (first | ((with_reducible refine gate_dst (N := 1) rfl ?_); (try (refine gate_guard (by rfl) ?_; dsimp only)); refine box_event ?hg (N := 1) ?hd (cs := #[.string a0_0, .slice A0_1 l0_1.length c0_1]) (t := 46) ?hr ?_; (case hd => rfl); (case hg => rfl); (case hr => first | (go_simp; done) | (go_simp; rfl)); intro gb1 hg w1 hbox hb; have n0_ := Aside0.mk (below_step (by repeat (first | (with_reducible first | exact HB.out | apply below_alloc | apply pw_below_drewN | apply below_drew1) | exact HB.out)) hb); have n1_ := Aside0.mk (hbox); have n2_ := Aside0.mk ((by rw [hg]; exact (below_size (by repeat (first | (with_reducible first | exact HB.out | apply below_alloc | apply pw_below_drewN | apply below_drew1) | exact HB.out)))) : w.heap.size ≤ gb1); clear HB; have HB := n0_; have BK := n1_; have GE := n2_; clear n0_ n1_ n2_; clear hb hbox hg; have hcz_0 : w1.cell? ⟨gb1, 0, none⟩ = some (.string a0_0) := (blk_cell BK.out 0).trans rfl; have hfz_0 := blk_frozen BK.out 0; have hcz_1 : w1.cell? ⟨gb1, 1, none⟩ = some (.slice A0_1 l0_1.length c0_1) := (blk_cell BK.out 1).trans rfl; have hfz_1 := blk_frozen BK.out 1) | (go_at_call 73; (with_reducible refine (impl_isName.calls k a0_0 false _ A1.out).mono ?_); rintro e w' ⟨rfl, ⟨nd, rfl⟩⟩))
    go_ret
    exact ⟨by first | rfl | (simp; done), by repeat (first | (with_reducible first | exact HB.out | apply below_alloc | apply pw_below_drewN | apply below_drew1 | refine below_set ?_ GE.out) | exact HB.out)⟩
  | true =>
    rw [if_pos rfl] at H
    by_cases c : (l0_1.length : Int) > 4
    · rw [if_pos c] at H
      have cb : decide (4 < (l0_1.length : Int)) = true := decide_eq_true c
      have cb1 : decide (4 < l0_1.length) = true := decide_eq_true (by omega)
      clear c
      obtain rfl := Option.some.inj H
      clear H
      go_enter Tryd.func53, Tryd.ntmps53
      go_wp2_with (first | ((with_reducible refine gate_dst (N := 1) rfl ?_); (try (refine gate_guard (by rfl) ?_; dsimp only)); refine box_event ?hg (N := 1) ?hd (cs := #[.string a0_0, .slice A0_1 l0_1.length c0_1]) (t := 46) ?hr ?_; (case hd => rfl); (case hg => rfl); (case hr => first | (go_simp; done) | (go_simp; rfl)); intro gb1 hg w1 hbox hb; have n0_ := Aside0.mk (below_step (by repeat (first | (with_reducible first | exact HB.out | apply below_alloc | apply pw_below_drewN | apply below_drew1) | exact HB.out)) hb); have n1_ := Aside0.mk (hbox); have n2_ := Aside0.mk ((by rw [hg]; exact (below_size (by repeat (first | (with_reducible first | exact HB.out | apply below_alloc | apply pw_below_drewN | apply below_drew1) | exact HB.out)))) : w.heap.size ≤ gb1); clear HB; have HB := n0_; have BK := n1_; have GE := n2_; clear n0_ n1_ n2_; clear hb hbox hg; have hcz_0 : w1.cell? ⟨gb1, 0, none⟩ = some (.string a0_0) := (blk_cell BK.out 0).trans rfl; have hfz_0 := blk_frozen BK.out 0; have hcz_1 : w1.cell? ⟨gb1, 1, none⟩ = some (.slice A0_1 l0_1.length c0_1) := (blk_cell BK.out 1).trans rfl; have hfz_1 := blk_frozen BK.out 1) | (go_at_call 73; (with_reducible refine (impl_isName.calls k a0_0 true _ A1.out).mono ?_); rintro e w' ⟨rfl, ⟨nd, rfl⟩⟩))
      go_ret
      exact ⟨by first | rfl | (simp; done), by repeat (first | (with_reducible first | exact HB.out | apply below_alloc | apply pw_below_drewN | apply below_drew1 | refine below_set ?_ GE.out) | exact HB.out)⟩
    · rw [if_neg c] at H
      have cb : decide (4 < (l0_1.length : Int)) = false := decide_eq_false c
      have cb1 : decide (4 < l0_1.length) = false := decide_eq_false (by omega)
      have LB := Aside0.mk c
      clear c
      have HA := Aside0.mk H
      clear H
      go_enter Tryd.func53, Tryd.ntmps53
      go_wp2_with (first | ((with_reducible refine gate_dst (N := 1) rfl ?_); (try (refine gate_guard (by rfl) ?_; dsimp only)); refine box_event ?hg (N := 1) ?hd (cs := #[.string a0_0, .slice A0_1 l0_1.length c0_1]) (t := 46) ?hr ?_; (case hd => rfl); (case hg => rfl); (case hr => first | (go_simp; done) | (go_simp; rfl)); intro gb1 hg w1 hbox hb; have n0_ := Aside0.mk (below_step (by repeat (first | (with_reducible first | exact HB.out | apply below_alloc | apply pw_below_drewN | apply below_drew1) | exact HB.out)) hb); have n1_ := Aside0.mk (hbox); have n2_ := Aside0.mk ((by rw [hg]; exact (below_size (by repeat (first | (with_reducible first | exact HB.out | apply below_alloc | apply pw_below_drewN | apply below_drew1) | exact HB.out)))) : w.heap.size ≤ gb1); clear HB; have HB := n0_; have BK := n1_; have GE := n2_; clear n0_ n1_ n2_; clear hb hbox hg; have hcz_0 : w1.cell? ⟨gb1, 0, none⟩ = some (.string a0_0) := (blk_cell BK.out 0).trans rfl; have hfz_0 := blk_frozen BK.out 0; have hcz_1 : w1.cell? ⟨gb1, 1, none⟩ = some (.slice A0_1 l0_1.length c0_1) := (blk_cell BK.out 1).trans rfl; have hfz_1 := blk_frozen BK.out 1) | (go_at_call 73; (with_reducible refine (impl_isName.calls k a0_0 true _ A1.out).mono ?_); rintro e w' ⟨rfl, ⟨nd, rfl⟩⟩))
      go_loopg [3, 4, 18] l0_1.length (fun kq _ _ v18 w' => ∃ d : Nat, v18 = .int .i64 ((l0_1.length : Int) - (d : Int)) ∧ Aside0 (d ≤ l0_1.length ∧ d ≤ kq) ∧ Aside0 (impl_isScript.l0 k l0_1 d = some r) ∧ Aside0 (w'.heap[gb1]? = some (.cells #[.string a0_0, .slice A0_1 l0_1.length c0_1] 46 (0, 0))) ∧ Aside0 (Below w.heap.size w w'))
      case atStart => exact ⟨l0_1.length, by (first | rfl | (simp; done)), ⟨Nat.le_refl _, Nat.le_refl _⟩, HA, ⟨by (with_reducible repeat (first | refine blk_drewN ?_ _ | refine blk_drew ?_ | refine blk_alloc ?_ _)); exact BK.out⟩, ⟨by repeat (first | (with_reducible first | exact HB.out | apply below_alloc | apply pw_below_drewN | apply below_drew1 | refine below_set ?_ GE.out) | exact HB.out)⟩⟩
      case round =>
        clear HA BK HB
        try clear cb
        try clear cb1
        obtain ⟨d, rfl, HK, HA, BK, HB⟩ := hrel
        cases d with
        | zero =>
          obtain rfl := Option.some.inj (show some true = some r from HA.out)
          have c3b : decide ((l0_1.length : Int) - ((0 : Nat) : Int) < (l0_1.length : Int)) = false := decide_eq_false (by omega)
          go_wp2
          go_ret
          exact ⟨by first | rfl | (simp; done), by repeat (first | (with_reducible first | exact HB.out | apply below_alloc | apply pw_below_drewN | apply below_drew1 | refine below_set ?_ GE.out) | exact HB.out)⟩
        | succ d =>
          obtain ⟨x, hx⟩ : ∃ x : Int, x = (l0_1.length : Int) - ((d + 1 : Nat) : Int) := ⟨_, rfl⟩
          have H := HA.out
          clear HA
          unfold impl_isScript.l0 at H
          rw [← hx] at H ⊢
          have x0 : 0 ≤ x := by have := HK.out; omega
          have x1 : x < (l0_1.length : Int) := by omega
          have x2 : x ≤ (l0_1.length : Int) := by omega
          have HX := Aside0.mk hx
          clear hx
          have x1b : decide (x < (l0_1.length : Int)) = true := decide_eq_true x1
          obtain ⟨t2, At2, H⟩ := Option.bind_eq_some_iff.mp H
          have A2 := Aside0.mk At2
          clear At2
          obtain ⟨ad, A1_, c1_, e0, hx0, hx1, hl1, hi1⟩ := at_T72 HR0.out x x0 x1
          cases e0
          replace hx0 := (HB.out.cell (World.block_lt_of_cell? w _ hx0)).trans hx0
          replace hx1 := (HB.out.cell (World.block_lt_of_cell? w _ hx1)).trans hx1
          have HR1 := Aside0.mk hi1
          have HC1 := Aside0.mk hl1
          clear hi1 hl1
          have hcz_0 : wr.cell? ⟨gb1, 0, none⟩ = some (.string a0_0) := (blk_cell BK.out 0).trans rfl
          have hcz_1 : wr.cell? ⟨gb1, 1, none⟩ = some (.slice (some ad) l0_1.length c0_1) := (blk_cell BK.out 1).trans rfl
          have hfz_0 := blk_frozen BK.out 0
          have hfz_1 := blk_frozen BK.out 1
          obtain ⟨i0_, hi0_, _, hsz_, _⟩ := info_parts info72
          have hcut := cut_to (P := Tryd.prog) 44 72 .i64 Tryd.underlying44 hi0_ (some ad) l0_1.length c0_1 x x0 x2 HC0.out
          have hry := Kd.C_take (m := x.toNat) HR0.out (by omega)
          have hyl : (l0_1.take x.toNat).length = x.toNat := by rw [List.length_take]; omega
          obtain ⟨y, hy⟩ : ∃ y_ : List S72, y_ = l0_1.take x.toNat := ⟨_, rfl⟩
          rw [← hy] at hry hyl H
          rw [← hyl] at hcut
          have HRY := Aside0.mk hry
          have HCY := Aside0.mk (show y.length ≤ c0_1 from by have := HC0.out; omega)
          have HLY := Aside0.mk hyl
          have x0b := eq_true x0
          have x1c := eq_true x1
          have x2b := eq_true x2
          have X2 := Aside0.mk (And.intro x0 x1)
          clear hi0_ hsz_ hry hyl hy x0 x1 x2
          cases t2 with
          | false =>
            obtain rfl := Option.some.inj (show some false = some r from H)
            clear H
            go_wp2_with (first | ((with_reducible refine gate_dst (N := 4) rfl ?_); refine box_event ?hg (N := 4) ?hd (cs := #[.string (⟨#[]⟩ : ByteArray), .slice none 0 0]) (t := 72) ?hr ?_; (case hd => rfl); (case hg => rfl); (case hr => first | (go_simp; done) | (go_simp; rfl)); intro gb2 hg w12 hbox hb; have n0_ := Aside0.mk (below_step HB.out hb); have n1_ := Aside0.mk (blk_below BK.out hb); have HBR := Aside0.mk hb; have GER := Aside0.mk (show wr.heap.size ≤ gb2 from by rw [hg]; exact Nat.le_refl _); have GE2 := Aside0.mk (show w.heap.size ≤ gb2 from by rw [hg]; exact below_size HB.out); have CB := Aside0.mk hbox; have BK0 := BK; clear HB BK; have HB := n0_; have BK := n1_; clear n0_ n1_ hb hbox hg; have hcv_0 : w12.cell? ⟨gb2, 0, none⟩ = some (.string (⟨#[]⟩ : ByteArray)) := (blk_cell CB.out 0).trans rfl; have hcv_1 : w12.cell? ⟨gb2, 1, none⟩ = some (.slice none 0 0) := (blk_cell CB.out 1).trans rfl; have hfv_0 := blk_frozen CB.out 0; have hfv_1 := blk_frozen CB.out 1) | ((with_reducible refine gate_store (t := 72) (p := 4) rfl ?_); refine store_event (t := 72) (p := 4) (v := ?vo) (w1 := ((w12.setCell ⟨gb2, 0, none⟩ (.string (rd_T72 l0_1 x).f0)).setCell ⟨gb2, 1, none⟩ (.slice A1_ (rd_T72 l0_1 x).f1.length c1_))) ?hg ?ho ?hn ?hr ?_; (case ho => rfl); (case hg => rfl); (case hn => rfl); (case hr => first | (go_simp; done) | (go_simp; rfl)); intro w13 hw; have n0_ := Aside0.mk (show Below w.heap.size w w13 from by rw [hw]; exact below_set (below_set HB.out GE2.out) GE2.out); have n1_ := Aside0.mk (show w13.heap[gb2]? = some (.cells #[.string (rd_T72 l0_1 x).f0, .slice A1_ (rd_T72 l0_1 x).f1.length c1_] 72 (0, 0)) from by rw [hw]; refine blk_put (cs := #[.string (rd_T72 l0_1 x).f0, .slice none 0 0]) ?_ 1 _ rfl; refine blk_put (cs := #[.string (⟨#[]⟩ : ByteArray), .slice none 0 0]) ?_ 0 _ rfl; exact CB.out); have n2_ := Aside0.mk (show Below wr.heap.size wr w13 from by rw [hw]; exact below_set (below_set HBR.out GER.out) GER.out); have n3_ := Aside0.mk (blk_below BK0.out n2_.out); clear HB BK CB; have HB := n0_; have CB := n1_; have BK := n3_; clear n0_ n1_ n2_ n3_ hw; have hczgb1_0 : w13.cell? ⟨gb1, 0, none⟩ = some (.string a0_0) := (blk_cell BK.out 0).trans rfl; have hfzgb1_0 := blk_frozen BK.out 0; have hczgb1_1 : w13.cell? ⟨gb1, 1, none⟩ = some (.slice (some ad) l0_1.length c0_1) := (blk_cell BK.out 1).trans rfl; have hfzgb1_1 := blk_frozen BK.out 1; have hczgb2_0 : w13.cell? ⟨gb2, 0, none⟩ = some (.string (rd_T72 l0_1 x).f0) := (blk_cell CB.out 0).trans rfl; have hfzgb2_0 := blk_frozen CB.out 0; have hczgb2_1 : w13.cell? ⟨gb2, 1, none⟩ = some (.slice A1_ (rd_T72 l0_1 x).f1.length c1_) := (blk_cell CB.out 1).trans rfl; have hfzgb2_1 := blk_frozen CB.out 1) | (go_at_call 80; (with_reducible refine (impl_isMethod.calls k (rd_T72 l0_1 x).f0 A1_ c1_ (rd_T72 l0_1 x).f1 false _ ?s1 ?s2 A2.out).mono ?_); (case s1 => exact Kd.C_below HR1.out HB.out); (case s2 => exact HC1.out); rintro e w14 ⟨rfl, hb⟩; have n0_ := Aside0.mk (below_step HB.out hb); have n1_ := Aside0.mk (blk_below BK.out hb); have n2_ := Aside0.mk (blk_below CB.out hb); clear HB BK CB; have HB := n0_; have BK := n1_; have CB := n2_; clear n0_ n1_ n2_ hb; have hczgb1_0 : w14.cell? ⟨gb1, 0, none⟩ = some (.string a0_0) := (blk_cell BK.out 0).trans rfl; have hfzgb1_0 := blk_frozen BK.out 0; have hczgb1_1 : w14.cell? ⟨gb1, 1, none⟩ = some (.slice (some ad) l0_1.length c0_1) := (blk_cell BK.out 1).trans rfl; have hfzgb1_1 := blk_frozen BK.out 1; have hczgb2_0 : w14.cell? ⟨gb2, 0, none⟩ = some (.string (rd_T72 l0_1 x).f0) := (blk_cell CB.out 0).trans rfl; have hfzgb2_0 := blk_frozen CB.out 0; have hczgb2_1 : w14.cell? ⟨gb2, 1, none⟩ = some (.slice A1_ (rd_T72 l0_1 x).f1.length c1_) := (blk_cell CB.out 1).trans rfl; have hfzgb2_1 := blk_frozen CB.out 1))
            go_ret
            exact ⟨by first | rfl | (simp; done), by repeat (first | (with_reducible first | exact HB.out | apply below_alloc | apply pw_below_drewN | apply below_drew1 | refine below_set ?_ GE.out) | exact HB.out)⟩
          | true =>
            rw [if_pos rfl] at H
            obtain ⟨r2, At3, H⟩ := Option.bind_eq_some_iff.mp H
            have A3 := Aside0.mk At3
            clear At3
            by_cases cr : r2 ≥ 0
            · rw [if_pos cr] at H
              obtain rfl := Option.some.inj H
              clear H
              have crb : decide (r2 ≥ 0) = true := decide_eq_true cr
              have CR := Aside0.mk crb
              clear cr crb
              go_wp2_with (first | ((with_reducible refine gate_dst (N := 4) rfl ?_); refine box_event ?hg (N := 4) ?hd (cs := #[.string (⟨#[]⟩ : ByteArray), .slice none 0 0]) (t := 72) ?hr ?_; (case hd => rfl); (case hg => rfl); (case hr => first | (go_simp; done) | (go_simp; rfl)); intro gb2 hg w12 hbox hb; have n0_ := Aside0.mk (below_step HB.out hb); have n1_ := Aside0.mk (blk_below BK.out hb); have HBR := Aside0.mk hb; have GER := Aside0.mk (show wr.heap.size ≤ gb2 from by rw [hg]; exact Nat.le_refl _); have GE2 := Aside0.mk (show w.heap.size ≤ gb2 from by rw [hg]; exact below_size HB.out); have CB := Aside0.mk hbox; have BK0 := BK; clear HB BK; have HB := n0_; have BK := n1_; clear n0_ n1_ hb hbox hg; have hcv_0 : w12.cell? ⟨gb2, 0, none⟩ = some (.string (⟨#[]⟩ : ByteArray)) := (blk_cell CB.out 0).trans rfl; have hcv_1 : w12.cell? ⟨gb2, 1, none⟩ = some (.slice none 0 0) := (blk_cell CB.out 1).trans rfl; have hfv_0 := blk_frozen CB.out 0; have hfv_1 := blk_frozen CB.out 1) | ((with_reducible refine gate_store (t := 72) (p := 4) rfl ?_); refine store_event (t := 72) (p := 4) (v := ?vo) (w1 := ((w12.setCell ⟨gb2, 0, none⟩ (.string (rd_T72 l0_1 x).f0)).setCell ⟨gb2, 1, none⟩ (.slice A1_ (rd_T72 l0_1 x).f1.length c1_))) ?hg ?ho ?hn ?hr ?_; (case ho => rfl); (case hg => rfl); (case hn => rfl); (case hr => first | (go_simp; done) | (go_simp; rfl)); intro w13 hw; have n0_ := Aside0.mk (show Below w.heap.size w w13 from by rw [hw]; exact below_set (below_set HB.out GE2.out) GE2.out); have n1_ := Aside0.mk (show w13.heap[gb2]? = some (.cells #[.string (rd_T72 l0_1 x).f0, .slice A1_ (rd_T72 l0_1 x).f1.length c1_] 72 (0, 0)) from by rw [hw]; refine blk_put (cs := #[.string (rd_T72 l0_1 x).f0, .slice none 0 0]) ?_ 1 _ rfl; refine blk_put (cs := #[.string (⟨#[]⟩ : ByteArray), .slice none 0 0]) ?_ 0 _ rfl; exact CB.out); have n2_ := Aside0.mk (show Below wr.heap.size wr w13 from by rw [hw]; exact below_set (below_set HBR.out GER.out) GER.out); have n3_ := Aside0.mk (blk_below BK0.out n2_.out); clear HB BK CB; have HB := n0_; have CB := n1_; have BK := n3_; clear n0_ n1_ n2_ n3_ hw; have hczgb1_0 : w13.cell? ⟨gb1, 0, none⟩ = some (.string a0_0) := (blk_cell BK.out 0).trans rfl; have hfzgb1_0 := blk_frozen BK.out 0; have hczgb1_1 : w13.cell? ⟨gb1, 1, none⟩ = some (.slice (some ad) l0_1.length c0_1) := (blk_cell BK.out 1).trans rfl; have hfzgb1_1 := blk_frozen BK.out 1; have hczgb2_0 : w13.cell? ⟨gb2, 0, none⟩ = some (.string (rd_T72 l0_1 x).f0) := (blk_cell CB.out 0).trans rfl; have hfzgb2_0 := blk_frozen CB.out 0; have hczgb2_1 : w13.cell? ⟨gb2, 1, none⟩ = some (.slice A1_ (rd_T72 l0_1 x).f1.length c1_) := (blk_cell CB.out 1).trans rfl; have hfzgb2_1 := blk_frozen CB.out 1) | (go_at_call 80; (with_reducible refine (impl_isMethod.calls k (rd_T72 l0_1 x).f0 A1_ c1_ (rd_T72 l0_1 x).f1 true _ ?s1 ?s2 A2.out).mono ?_); (case s1 => exact Kd.C_below HR1.out HB.out); (case s2 => exact HC1.out); rintro e w14 ⟨rfl, hb⟩; have n0_ := Aside0.mk (below_step HB.out hb); have n1_ := Aside0.mk (blk_below BK.out hb); have n2_ := Aside0.mk (blk_below CB.out hb); clear HB BK CB; have HB := n0_; have BK := n1_; have CB := n2_; clear n0_ n1_ n2_ hb; have hczgb1_0 : w14.cell? ⟨gb1, 0, none⟩ = some (.string a0_0) := (blk_cell BK.out 0).trans rfl; have hfzgb1_0 := blk_frozen BK.out 0; have hczgb1_1 : w14.cell? ⟨gb1, 1, none⟩ = some (.slice (some ad) l0_1.length c0_1) := (blk_cell BK.out 1).trans rfl; have hfzgb1_1 := blk_frozen BK.out 1; have hczgb2_0 : w14.cell? ⟨gb2, 0, none⟩ = some (.string (rd_T72 l0_1 x).f0) := (blk_cell CB.out 0).trans rfl; have hfzgb2_0 := blk_frozen CB.out 0; have hczgb2_1 : w14.cell? ⟨gb2, 1, none⟩ = some (.slice A1_ (rd_T72 l0_1 x).f1.length c1_) := (blk_cell CB.out 1).trans rfl; have hfzgb2_1 := blk_frozen CB.out 1) | (go_at_call 81; refine (impl_Method_81.at 82 #[.pointer (some ⟨gb2, 0, none⟩)] e82 _ (some ad) c0_1 y r2 _ ?hr HCY.out ?hl ?hp A3.out).mono ?_; (case hr => exact Kd.C_below HRY.out HB.out); (case hl => have h1 := LB.out; have h2 := X2.out; have h3 := HLY.out; omega); (case hp => intro W i b A1' c1' hb hi hl hC hq; obtain rfl := Option.some.inj hq; refine (show Calls Tryd.prog 82 #[_, _] W _ from (impl_isScript_1.at _ A1' _ c1' gb2 _ _ W (blk_below CB.out hb)).mono ?_); rintro e w' ⟨rfl, hb'⟩; exact ⟨rfl, below_step hb hb'⟩); rintro e w15 ⟨he, hb⟩; rw [CR.out] at he; subst he; have n0_ := Aside0.mk (below_step HB.out hb); have n1_ := Aside0.mk (blk_below BK.out hb); clear HB BK; have HB := n0_; have BK := n1_; clear n0_ n1_ hb))
              go_ret
              exact ⟨by first | rfl | (simp; done), by repeat (first | (with_reducible first | exact HB.out | apply below_alloc | apply pw_below_drewN | apply below_drew1 | refine below_set ?_ GE.out) | exact HB.out)⟩
            · rw [if_neg cr] at H
              have HN := Aside0.mk H
              clear H
              have crb : decide (r2 ≥ 0) = false := decide_eq_false cr
              have CR := Aside0.mk crb
              clear cr crb
              go_wp2_with (first | ((with_reducible refine gate_dst (N := 4) rfl ?_); refine box_event ?hg (N := 4) ?hd (cs := #[.string (⟨#[]⟩ : ByteArray), .slice none 0 0]) (t := 72) ?hr ?_; (case hd => rfl); (case hg => rfl); (case hr => first | (go_simp; done) | (go_simp; rfl)); intro gb2 hg w12 hbox hb; have n0_ := Aside0.mk (below_step HB.out hb); have n1_ := Aside0.mk (blk_below BK.out hb); have HBR := Aside0.mk hb; have GER := Aside0.mk (show wr.heap.size ≤ gb2 from by rw [hg]; exact Nat.le_refl _); have GE2 := Aside0.mk (show w.heap.size ≤ gb2 from by rw [hg]; exact below_size HB.out); have CB := Aside0.mk hbox; have BK0 := BK; clear HB BK; have HB := n0_; have BK := n1_; clear n0_ n1_ hb hbox hg; have hcv_0 : w12.cell? ⟨gb2, 0, none⟩ = some (.string (⟨#[]⟩ : ByteArray)) := (blk_cell CB.out 0).trans rfl; have hcv_1 : w12.cell? ⟨gb2, 1, none⟩ = some (.slice none 0 0) := (blk_cell CB.out 1).trans rfl; have hfv_0 := blk_frozen CB.out 0; have hfv_1 := blk_frozen CB.out 1) | ((with_reducible refine gate_store (t := 72) (p := 4) rfl ?_); refine store_event (t := 72) (p := 4) (v := ?vo) (w1 := ((w12.setCell ⟨gb2, 0, none⟩ (.string (rd_T72 l0_1 x).f0)).setCell ⟨gb2, 1, none⟩ (.slice A1_ (rd_T72 l0_1 x).f1.length c1_))) ?hg ?ho ?hn ?hr ?_; (case ho => rfl); (case hg => rfl); (case hn => rfl); (case hr => first | (go_simp; done) | (go_simp; rfl)); intro w13 hw; have n0_ := Aside0.mk (show Below w.heap.size w w13 from by rw [hw]; exact below_set (below_set HB.out GE2.out) GE2.out); have n1_ := Aside0.mk (show w13.heap[gb2]? = some (.cells #[.string (rd_T72 l0_1 x).f0, .slice A1_ (rd_T72 l0_1 x).f1.length c1_] 72 (0, 0)) from by rw [hw]; refine blk_put (cs := #[.string (rd_T72 l0_1 x).f0, .slice none 0 0]) ?_ 1 _ rfl; refine blk_put (cs := #[.string (⟨#[]⟩ : ByteArray), .slice none 0 0]) ?_ 0 _ rfl; exact CB.out); have n2_ := Aside0.mk (show Below wr.heap.size wr w13 from by rw [hw]; exact below_set (below_set HBR.out GER.out) GER.out); have n3_ := Aside0.mk (blk_below BK0.out n2_.out); clear HB BK CB; have HB := n0_; have CB := n1_; have BK := n3_; clear n0_ n1_ n2_ n3_ hw; have hczgb1_0 : w13.cell? ⟨gb1, 0, none⟩ = some (.string a0_0) := (blk_cell BK.out 0).trans rfl; have hfzgb1_0 := blk_frozen BK.out 0; have hczgb1_1 : w13.cell? ⟨gb1, 1, none⟩ = some (.slice (some ad) l0_1.length c0_1) := (blk_cell BK.out 1).trans rfl; have hfzgb1_1 := blk_frozen BK.out 1; have hczgb2_0 : w13.cell? ⟨gb2, 0, none⟩ = some (.string (rd_T72 l0_1 x).f0) := (blk_cell CB.out 0).trans rfl; have hfzgb2_0 := blk_frozen CB.out 0; have hczgb2_1 : w13.cell? ⟨gb2, 1, none⟩ = some (.slice A1_ (rd_T72 l0_1 x).f1.length c1_) := (blk_cell CB.out 1).trans rfl; have hfzgb2_1 := blk_frozen CB.out 1) | (go_at_call 80; (with_reducible refine (impl_isMethod.calls k (rd_T72 l0_1 x).f0 A1_ c1_ (rd_T72 l0_1 x).f1 true _ ?s1 ?s2 A2.out).mono ?_); (case s1 => exact Kd.C_below HR1.out HB.out); (case s2 => exact HC1.out); rintro e w14 ⟨rfl, hb⟩; have n0_ := Aside0.mk (below_step HB.out hb); have n1_ := Aside0.mk (blk_below BK.out hb); have n2_ := Aside0.mk (blk_below CB.out hb); clear HB BK CB; have HB := n0_; have BK := n1_; have CB := n2_; clear n0_ n1_ n2_ hb; have hczgb1_0 : w14.cell? ⟨gb1, 0, none⟩ = some (.string a0_0) := (blk_cell BK.out 0).trans rfl; have hfzgb1_0 := blk_frozen BK.out 0; have hczgb1_1 : w14.cell? ⟨gb1, 1, none⟩ = some (.slice (some ad) l0_1.length c0_1) := (blk_cell BK.out 1).trans rfl; have hfzgb1_1 := blk_frozen BK.out 1; have hczgb2_0 : w14.cell? ⟨gb2, 0, none⟩ = some (.string (rd_T72 l0_1 x).f0) := (blk_cell CB.out 0).trans rfl; have hfzgb2_0 := blk_frozen CB.out 0; have hczgb2_1 : w14.cell? ⟨gb2, 1, none⟩ = some (.slice A1_ (rd_T72 l0_1 x).f1.length c1_) := (blk_cell CB.out 1).trans rfl; have hfzgb2_1 := blk_frozen CB.out 1) | (go_at_call 81; refine (impl_Method_81.at 82 #[.pointer (some ⟨gb2, 0, none⟩)] e82 _ (some ad) c0_1 y r2 _ ?hr HCY.out ?hl ?hp A3.out).mono ?_; (case hr => exact Kd.C_below HRY.out HB.out); (case hl => have h1 := LB.out; have h2 := X2.out; have h3 := HLY.out; omega); (case hp => intro W i b A1' c1' hb hi hl hC hq; obtain rfl := Option.some.inj hq; refine (show Calls Tryd.prog 82 #[_, _] W _ from (impl_isScript_1.at _ A1' _ c1' gb2 _ _ W (blk_below CB.out hb)).mono ?_); rintro e w' ⟨rfl, hb'⟩; exact ⟨rfl, below_step hb hb'⟩); rintro e w15 ⟨he, hb⟩; rw [CR.out] at he; subst he; have n0_ := Aside0.mk (below_step HB.out hb); have n1_ := Aside0.mk (blk_below BK.out hb); clear HB BK; have HB := n0_; have BK := n1_; clear n0_ n1_ hb))
              have ew : wrap64 (x + 1) = (l0_1.length : Int) - (d : Int) := by have h1 := HX.out; have h2 := LB.out; have h3 := X2.out; unfold wrap64; omega
              go_roundg (gk - 1)
              case measure => have := HK.out; omega
              case rel => exact ⟨d, by rw [ew], ⟨by have := HK.out; omega, by have := HK.out; omega⟩, HN, BK, HB⟩


/-! ### impl_OpName: function 10 (by hand) -/
def impl_OpName.tab : List ByteArray := [⟨#[]⟩, ⟨#[99, 111, 110, 115, 116]⟩, ⟨#[97, 114, 103]⟩, ⟨#[115, 108, 111, 116]⟩, ⟨#[115, 101, 108, 102]⟩, ⟨#[97, 100, 100]⟩, ⟨#[115, 101, 110, 100]⟩, ⟨#[110, 101, 119]⟩, ⟨#[115, 101, 116]⟩, ⟨#[115, 107, 105, 112]⟩, ⟨#[114, 101, 116, 117, 114, 110]⟩]
def impl_OpName.f (a0 : Int) : Option (ByteArray) := if 1 ≤ a0 ∧ a0 ≤ 10 then some (impl_OpName.tab.getD a0.toNat ⟨#[]⟩) else some ⟨#[]⟩
set_option maxHeartbeats 8000000 in
set_option maxRecDepth 100000 in
theorem impl_OpName.calls (a0 : Int) (r : ByteArray) (w : World) (h : impl_OpName.f a0 = some r) (htab : Go.Proofs.YtmipaoobkjppdaaDoor.TabFnExactFormatScript.Tabs w) :
    Calls Tryd.prog 10 #[.int .i64 a0] w fun e w' => e = .returned (.string r) ∧ Below w.heap.size w w' := by
  have HB := Aside0.mk (Below.refl w.heap.size w)
  have htb := fun i => World.var?_cell (g := 0) (by kernel_rfl) htab.opNames i
  unfold impl_OpName.f at h
  by_cases c : 1 ≤ a0 ∧ a0 ≤ 10
  · rw [if_pos c] at h
    have HIN := Aside0.mk (show impl_in.f a0 1 10 = some true from by unfold impl_in.f; rw [if_pos c.1, decide_eq_true c.2])
    have hc : a0 = 1 ∨ a0 = 2 ∨ a0 = 3 ∨ a0 = 4 ∨ a0 = 5 ∨ a0 = 6 ∨ a0 = 7 ∨ a0 = 8 ∨ a0 = 9 ∨ a0 = 10 := by omega
    clear c
    rcases hc with rfl | rfl | rfl | rfl | rfl | rfl | rfl | rfl | rfl | rfl
    · obtain rfl := Option.some.inj h
      have hcell : w.cell? ⟨0, 1, none⟩ = some (.string ⟨#[99, 111, 110, 115, 116]⟩) := (htb 1).trans rfl
      clear htb h htab
      go_enter Tryd.func10, Tryd.ntmps10
      go_wp2_with (first | (go_at_call 39; (with_reducible refine (impl_in.calls 1 1 10 true _ HIN.out).mono ?_); rintro e w' ⟨rfl, ⟨nd, rfl⟩⟩))
      go_ret
      exact ⟨by first | rfl | (simp; done), by repeat (first | (with_reducible first | exact HB.out | apply below_alloc | apply pw_below_drewN | apply below_drew1) | exact HB.out)⟩
    · obtain rfl := Option.some.inj h
      have hcell : w.cell? ⟨0, 2, none⟩ = some (.string ⟨#[97, 114, 103]⟩) := (htb 2).trans rfl
      clear htb h htab
      go_enter Tryd.func10, Tryd.ntmps10
      go_wp2_with (first | (go_at_call 39; (with_reducible refine (impl_in.calls 2 1 10 true _ HIN.out).mono ?_); rintro e w' ⟨rfl, ⟨nd, rfl⟩⟩))
      go_ret
      exact ⟨by first | rfl | (simp; done), by repeat (first | (with_reducible first | exact HB.out | apply below_alloc | apply pw_below_drewN | apply below_drew1) | exact HB.out)⟩
    · obtain rfl := Option.some.inj h
      have hcell : w.cell? ⟨0, 3, none⟩ = some (.string ⟨#[115, 108, 111, 116]⟩) := (htb 3).trans rfl
      clear htb h htab
      go_enter Tryd.func10, Tryd.ntmps10
      go_wp2_with (first | (go_at_call 39; (with_reducible refine (impl_in.calls 3 1 10 true _ HIN.out).mono ?_); rintro e w' ⟨rfl, ⟨nd, rfl⟩⟩))
      go_ret
      exact ⟨by first | rfl | (simp; done), by repeat (first | (with_reducible first | exact HB.out | apply below_alloc | apply pw_below_drewN | apply below_drew1) | exact HB.out)⟩
    · obtain rfl := Option.some.inj h
      have hcell : w.cell? ⟨0, 4, none⟩ = some (.string ⟨#[115, 101, 108, 102]⟩) := (htb 4).trans rfl
      clear htb h htab
      go_enter Tryd.func10, Tryd.ntmps10
      go_wp2_with (first | (go_at_call 39; (with_reducible refine (impl_in.calls 4 1 10 true _ HIN.out).mono ?_); rintro e w' ⟨rfl, ⟨nd, rfl⟩⟩))
      go_ret
      exact ⟨by first | rfl | (simp; done), by repeat (first | (with_reducible first | exact HB.out | apply below_alloc | apply pw_below_drewN | apply below_drew1) | exact HB.out)⟩
    · obtain rfl := Option.some.inj h
      have hcell : w.cell? ⟨0, 5, none⟩ = some (.string ⟨#[97, 100, 100]⟩) := (htb 5).trans rfl
      clear htb h htab
      go_enter Tryd.func10, Tryd.ntmps10
      go_wp2_with (first | (go_at_call 39; (with_reducible refine (impl_in.calls 5 1 10 true _ HIN.out).mono ?_); rintro e w' ⟨rfl, ⟨nd, rfl⟩⟩))
      go_ret
      exact ⟨by first | rfl | (simp; done), by repeat (first | (with_reducible first | exact HB.out | apply below_alloc | apply pw_below_drewN | apply below_drew1) | exact HB.out)⟩
    · obtain rfl := Option.some.inj h
      have hcell : w.cell? ⟨0, 6, none⟩ = some (.string ⟨#[115, 101, 110, 100]⟩) := (htb 6).trans rfl
      clear htb h htab
      go_enter Tryd.func10, Tryd.ntmps10
      go_wp2_with (first | (go_at_call 39; (with_reducible refine (impl_in.calls 6 1 10 true _ HIN.out).mono ?_); rintro e w' ⟨rfl, ⟨nd, rfl⟩⟩))
      go_ret
      exact ⟨by first | rfl | (simp; done), by repeat (first | (with_reducible first | exact HB.out | apply below_alloc | apply pw_below_drewN | apply below_drew1) | exact HB.out)⟩
    · obtain rfl := Option.some.inj h
      have hcell : w.cell? ⟨0, 7, none⟩ = some (.string ⟨#[110, 101, 119]⟩) := (htb 7).trans rfl
      clear htb h htab
      go_enter Tryd.func10, Tryd.ntmps10
      go_wp2_with (first | (go_at_call 39; (with_reducible refine (impl_in.calls 7 1 10 true _ HIN.out).mono ?_); rintro e w' ⟨rfl, ⟨nd, rfl⟩⟩))
      go_ret
      exact ⟨by first | rfl | (simp; done), by repeat (first | (with_reducible first | exact HB.out | apply below_alloc | apply pw_below_drewN | apply below_drew1) | exact HB.out)⟩
    · obtain rfl := Option.some.inj h
      have hcell : w.cell? ⟨0, 8, none⟩ = some (.string ⟨#[115, 101, 116]⟩) := (htb 8).trans rfl
      clear htb h htab
      go_enter Tryd.func10, Tryd.ntmps10
      go_wp2_with (first | (go_at_call 39; (with_reducible refine (impl_in.calls 8 1 10 true _ HIN.out).mono ?_); rintro e w' ⟨rfl, ⟨nd, rfl⟩⟩))
      go_ret
      exact ⟨by first | rfl | (simp; done), by repeat (first | (with_reducible first | exact HB.out | apply below_alloc | apply pw_below_drewN | apply below_drew1) | exact HB.out)⟩
    · obtain rfl := Option.some.inj h
      have hcell : w.cell? ⟨0, 9, none⟩ = some (.string ⟨#[115, 107, 105, 112]⟩) := (htb 9).trans rfl
      clear htb h htab
      go_enter Tryd.func10, Tryd.ntmps10
      go_wp2_with (first | (go_at_call 39; (with_reducible refine (impl_in.calls 9 1 10 true _ HIN.out).mono ?_); rintro e w' ⟨rfl, ⟨nd, rfl⟩⟩))
      go_ret
      exact ⟨by first | rfl | (simp; done), by repeat (first | (with_reducible first | exact HB.out | apply below_alloc | apply pw_below_drewN | apply below_drew1) | exact HB.out)⟩
    · obtain rfl := Option.some.inj h
      have hcell : w.cell? ⟨0, 10, none⟩ = some (.string ⟨#[114, 101, 116, 117, 114, 110]⟩) := (htb 10).trans rfl
      clear htb h htab
      go_enter Tryd.func10, Tryd.ntmps10
      go_wp2_with (first | (go_at_call 39; (with_reducible refine (impl_in.calls 10 1 10 true _ HIN.out).mono ?_); rintro e w' ⟨rfl, ⟨nd, rfl⟩⟩))
      go_ret
      exact ⟨by first | rfl | (simp; done), by repeat (first | (with_reducible first | exact HB.out | apply below_alloc | apply pw_below_drewN | apply below_drew1) | exact HB.out)⟩
  · rw [if_neg c] at h
    obtain rfl := Option.some.inj h
    have HIN := Aside0.mk (show impl_in.f a0 1 10 = some false from by
      unfold impl_in.f
      by_cases c1 : 1 ≤ a0
      · rw [if_pos c1, decide_eq_false (fun h2 => c ⟨c1, h2⟩)]
      · rw [if_neg c1])
    clear c htb h htab
    go_enter Tryd.func10, Tryd.ntmps10
    go_wp2_with (first | (go_at_call 39; (with_reducible refine (impl_in.calls a0 1 10 false _ HIN.out).mono ?_); rintro e w' ⟨rfl, ⟨nd, rfl⟩⟩))
    go_ret
    exact ⟨by first | rfl | (simp; done), by repeat (first | (with_reducible first | exact HB.out | apply below_alloc | apply pw_below_drewN | apply below_drew1) | exact HB.out)⟩


/-! ### slices_DeleteFunc_int_int: function 70 (by hand) -/
def Tryd.lay_df_ren : Go.Shelf.Ren := ⟨fun | 6 => 94 | 10 => 70 | n => n, fun | 0 => 0 | 3 => 3 | 4 => 4 | 22 => 29 | 23 => 3 | 25 => 23 | n => n, fun n => n⟩
set_option maxRecDepth 100000 in
theorem Tryd.lay_df : Go.Proofs.SlLaysH.n10 Tryd.prog Tryd.lay_df_ren where
  mixed := by kernel_rfl
  f6 := ⟨"slices.IndexFunc[[]int,int]", by decide, Tryd.func94.trans (congrArg some (by kernel_rfl))⟩
  f10 := ⟨"slices.DeleteFunc[[]int,int]", by decide, Tryd.func70.trans (congrArg some (by kernel_rfl))⟩
  t0 := Tryd.underlying0
  a0 := Tryd.isAgg0
  z0 := Tryd.sizeOf0
  v0 := Tryd.zeroValue0
  t3 := Tryd.underlying3
  a3 := Tryd.isAgg3
  z3 := Tryd.sizeOf3
  v3 := Tryd.zeroValue3
  t4 := Tryd.underlying4
  a4 := Tryd.isAgg4
  z4 := Tryd.sizeOf4
  v4 := Tryd.zeroValue4
  t22 := Tryd.underlying29
  a22 := Tryd.isAgg29
  z22 := Tryd.sizeOf29
  v22 := Tryd.zeroValue29
  a23 := Tryd.isAgg3
  z23 := Tryd.sizeOf3
  t25 := Tryd.underlying23
  a25 := Tryd.isAgg23
  z25 := Tryd.sizeOf23
  v25 := Tryd.zeroValue23


/-! ### impl_some_1: function 71 -/
def impl_some_1.f (a0 : Int) : Option (Bool) := some (a0 == (-1))
set_option maxHeartbeats 8000000 in
set_option maxRecDepth 100000 in
theorem impl_some_1.calls (a0 : Int) (r : Bool) (w : World) (h : impl_some_1.f a0 = some r) :
    Calls Tryd.prog 71 #[.int .i64 a0] w fun e w' => e = .returned (.bool r) ∧ Drawn0 w w' := by
  have H : (some (a0 == (-1))) = some r := h
  clear h
  obtain rfl := Option.some.inj H
  go_enter Tryd.func71, Tryd.ntmps71
  go_wp2
  go_ret
  exact ⟨by first | rfl | (simp; done) | (simp [*]; done), by repeat (first | exact Drawn0.refl _ | apply Drawn0.step)⟩

/-! ### impl_some: function 42 (by hand) -/
def impl_some.L (C D : Int) : List Int := [C, D].filter fun x => !(x == -1)
theorem impl_some.gn (W : World) : Go.Sort.grow W #[] = W := by cases W; simp [Go.Sort.grow]
theorem impl_some.len (C D : Int) : (impl_some.L C D).length ≤ 2 := List.length_filter_le _ _
set_option maxHeartbeats 8000000 in
set_option maxRecDepth 100000 in
theorem impl_some.at (v : Value) (C D : Int) (base : Nat) (w : World) (ok : Nat → Prop) (hR : Kd.R (Kd.int .i64) 3 w base ok v [C, D]) :
    Calls Tryd.prog 42 #[v] w fun e w' => ∃ v', e = .returned v' ∧ Kd.R (Kd.int .i64) 3 w' base ok v' (impl_some.L C D) ∧ w.grownBy w' v.ownBlock ∧ v'.ownBlock = v.ownBlock := by
  have e71 : ∀ args w, (callFunc 71 args).run Tryd.prog w = .ok (.enter 71 args) w := enters_of Tryd.func71 (by kernel_rfl) rfl
  have ho : w.ownsRow base 3 1 v 2 ([C, D].map (Value.int .i64)) := Kd.own_of_R hR
  have hok := hR.1
  rcases ho.2 with ⟨rfl, h0⟩ | ⟨g, cap, cur, rfl, hbase, hb, hn, hcap, hsz, htk⟩
  · exact absurd h0 (by decide)
  have hH : Go.Sort.Holds (Value.int .i64) w g 0 #[C, D] := Go.holds_of_blockI (ss := [C, D]) hb htk
  have hd := Go.Proofs.AnyE.slices_DeleteFunc (P := Tryd.prog) (ρ := Tryd.lay_df_ren) Tryd.lay_df (Value.int .i64) (fun _ => rfl) (fun x => x == -1) 71 #[] e71 0 (fun w => Tryd.zeroValue3 w) g 0 cap #[C, D] w
    (fun W x _ => by have hc := impl_some_1.calls x (x == -1) W rfl; refine (show Calls Tryd.prog 71 (#[Value.int .i64 x] ++ #[]) W _ from hc).mono ?_; rintro e w' ⟨he, nd, hd⟩; exact ⟨he, nd, hd⟩)
    (fun nn os dk x _ => by have hc := impl_some_1.calls x (x == -1) (Go.Proofs.sortWorld (Value.int .i64) w g 0 nn dk os) rfl; refine (show Calls Tryd.prog 71 (#[Value.int .i64 x] ++ #[]) _ _ from hc).mono ?_; rintro e w' ⟨he, nd, hd⟩; exact ⟨he, nd, hd⟩)
    hH (by simp) hn
  have hdc : Calls Tryd.prog 70 #[.slice (some ⟨g, 0, none⟩) 2 cap, .func (.func 71) #[] #[]] w _ := hd
  have hts : ((impl_some.L C D) ++ List.replicate (2 - (impl_some.L C D).length) 0).length = [C, D].length := by
    unfold impl_some.L
    simp only [List.filter_cons, List.filter_nil]
    split <;> split <;> rfl
  have HD := Aside0.mk hdc
  clear hd hdc
  go_enter Tryd.func42, Tryd.ntmps42
  go_wp2_with (go_at_call 70; refine HD.out.mono ?_; rintro e w' ⟨rfl, q, rfl⟩)
  go_ret
  have hs := Go.ownsRow_sortedI (n := q) (os := #[]) hts hbase hb hn hcap hsz
  have hz : Go.Sort.grow (Go.Sort.putRow (Value.int .i64) (Go.Sort.ahead w q) g 0 ((impl_some.L C D) ++ List.replicate (2 - (impl_some.L C D).length) 0).toArray) #[] = Go.Sort.putRow (Value.int .i64) (Go.Sort.ahead w q) g 0 ((impl_some.L C D) ++ List.replicate (2 - (impl_some.L C D).length) 0).toArray := impl_some.gn _
  rw [hz] at hs
  have hg := Go.grownBy_sortedI (w := w) (g := g) (n := q) (os := #[]) ((impl_some.L C D) ++ List.replicate (2 - (impl_some.L C D).length) 0).toArray
  rw [hz] at hg
  have hR2 := Kd.R_take (m := (impl_some.L C D).length) (Kd.R_of_own (h1 := fun _ => rfl) (enc := Value.int .i64) (xs := (impl_some.L C D) ++ List.replicate (2 - (impl_some.L C D).length) 0) (by rw [hts]; exact hs) hok) (by rw [List.length_append]; omega)
  rw [List.take_left] at hR2
  exact ⟨_, rfl, hR2, hg, rfl⟩
def impl_some.f (l0 : List Int) : Option (List Int) := if l0.length = 2 then some (l0.filter fun x => !(x == -1)) else none
theorem impl_some.calls (P0_ : Nat → Prop) (u9000_ : Value) (l0 : List Int) (r : List Int) (w0 w : World) (hB : Below w0.heap.size w0 w) (ho0 : Kd.R (Kd.int .i64) 3 w w0.heap.size P0_ u9000_ l0) (h : impl_some.f l0 = some r) :
    Calls Tryd.prog 42 #[u9000_] w fun e w' => ∃ v0_ : Value, e = .returned (v0_) ∧ Kd.R (Kd.int .i64) 3 w' w0.heap.size (fun k_ => (P0_ k_ ∨ w.heap.size ≤ k_)) v0_ r ∧ Below w0.heap.size w0 w' ∧ Kept w w' (fun k_ => P0_ k_) := by
  unfold impl_some.f at h
  by_cases c : l0.length = 2
  · rw [if_pos c] at h
    obtain rfl := Option.some.inj h
    obtain ⟨C, D, rfl⟩ : ∃ C D, l0 = [C, D] := by
      match l0, c with
      | [C, D], _ => exact ⟨C, D, rfl⟩
    refine (impl_some.at u9000_ C D w0.heap.size w P0_ ho0).mono ?_
    rintro e w' ⟨v', rfl, hr, hg, hob⟩
    refine ⟨v', rfl, Kd.R_mono hr (fun k_ hk => .inl hk), Below.grown hB hg (below_size hB) (fun k hk => Kd.R_base ho0 k hk), hg.size, fun i hi hs => hg.block i hi (fun he => hs (ho0.1 i he.symm))⟩
  · rw [if_neg c] at h
    exact absurd h (by simp)


/-! ### strconv_Itoa: function 95 (by hand) -/
def strconv_Itoa.f (a0 : Int) : Option (ByteArray) := if -9223372036854775808 ≤ a0 then (if a0 ≤ 9223372036854775807 then some ⟨(Go.Lib.itoa a0).toArray⟩ else none) else none
theorem strconv_Itoa.calls (a0 : Int) (r : ByteArray) (w : World) (h : strconv_Itoa.f a0 = some r) (htab : Go.Proofs.YtmipaoobkjppdaaDoor.TabFnExactFormatScript.Tabs w) :
    Calls Tryd.prog 95 #[.int .i64 a0] w fun e w' => e = .returned (.string r) ∧ Below w.heap.size w w' := by
  unfold strconv_Itoa.f at h
  by_cases h0 : -9223372036854775808 ≤ a0
  · rw [if_pos h0] at h
    by_cases h1 : a0 ≤ 9223372036854775807
    · rw [if_pos h1] at h
      obtain rfl := Option.some.inj h
      have hc : Calls Tryd.prog 95 #[.int .i64 a0] w _ := Go.Proofs.Any.strconv_Itoa Tryd.lay171 a0 h0 h1 w htab.pow10
      refine hc.mono ?_
      rintro e w' ⟨rfl, k, os, rfl⟩
      exact ⟨rfl, ⟨rfl, rfl, rfl, by show w.heap.size ≤ (w.heap ++ os).size; rw [Array.size_append]; omega, fun j hj => by show (w.heap ++ os)[j]? = w.heap[j]?; rw [Array.getElem?_append, if_pos hj]⟩⟩
    · rw [if_neg h1] at h
      exact absurd h (by simp)
  · rw [if_neg h0] at h
    exact absurd h (by simp)


/-! ### impl_FormatInt: function 75 -/
def impl_FormatInt.f (a0 : Int) : Option (ByteArray) := (strconv_Itoa.f a0).bind fun t240 => (some t240)
set_option maxHeartbeats 8000000 in
set_option maxRecDepth 100000 in
theorem impl_FormatInt.calls (a0 : Int) (r : ByteArray) (w : World) (h : impl_FormatInt.f a0 = some r) (htab : Go.Proofs.YtmipaoobkjppdaaDoor.TabFnExactFormatScript.Tabs w) :
    Calls Tryd.prog 75 #[.int .i64 a0] w fun e w' => e = .returned (.string r) ∧ Below w.heap.size w w' := by
  have HTAB := Aside0.mk htab
  clear htab
  have HB := Aside0.mk (Below.refl w.heap.size w)
  have H : ((strconv_Itoa.f a0).bind fun t240 => (some t240)) = some r := h
  clear h
  replace H := Option.bind_eq_some_iff.mp H
  obtain ⟨t240, A20, H⟩ := H
  replace H : (some t240) = some r := H
  have A2 := Aside0.mk A20
  clear A20
  obtain rfl := Option.some.inj H
  go_enter Tryd.func75, Tryd.ntmps75
  go_wp2_with (first | ((with_reducible refine gate_callee (f := 95) rfl ?_); refine goesL_ (some 4) rfl rfl Tryd.func95 (by kernel_rfl) rfl #[.int .i64 a0] rfl (by (try simp only [List.map_toArray, List.map_cons, List.map_nil]); first | done | rfl | (simp only [List.length_drop, List.length_take]; rfl)) ?_; (with_reducible refine (strconv_Itoa.calls a0 t240 _ A2.out ?tab1).mono ?_); (case tab1 => exact (HTAB.out).below (by repeat (first | (with_reducible first | exact HB.out | apply below_alloc | apply pw_below_drewN | apply below_drew1) | exact HB.out))); rintro e w3 ⟨rfl, hb⟩; refine ⟨_, rfl, ?_⟩; have n0_ := Aside0.mk (below_step (by repeat (first | (with_reducible first | exact HB.out | apply below_alloc | apply pw_below_drewN | apply below_drew1) | exact HB.out)) hb); clear HB; have HB := n0_; clear n0_; (try clear hb); (try clear hb2); (try clear hk); (try clear hi)))
  go_ret
  exact ⟨by first | rfl | (simp [errW_none, errW_some] <;> rfl) | (simp [*, errW_none, errW_some] <;> rfl), by repeat (first | (with_reducible first | exact HB.out | apply below_alloc | apply pw_below_drewN | apply below_drew1) | exact HB.out)⟩

/-! ### impl_formatInstr_1: function 74 (by hand) -/
theorem impl_formatInstr_1.fi (n : Int) (h0 : -9223372036854775808 ≤ n) (h1 : n ≤ 9223372036854775807) : impl_FormatInt.f n = some (⟨(Go.Lib.itoa n).toArray⟩ : ByteArray) := by
  unfold impl_FormatInt.f strconv_Itoa.f
  rw [if_pos h0, if_pos h1]
  rfl
def impl_formatInstr_1.S (n : Int) : ByteArray := ⟨(Go.Lib.itoa n).toArray⟩
set_option maxHeartbeats 8000000 in
set_option maxRecDepth 100000 in
theorem impl_formatInstr_1.at (gW : Nat) (v0 : Value) (ws : List ByteArray) (A0 : Option Addr) (c0 : Nat) (l0 : List Int) (w0 w : World) (hB : Below w0.heap.size w0 w) (hbox : w.heap[gW]? = some (.cells #[v0] 62 (0, 0))) (hbg : w0.heap.size ≤ gW) (hR : Kd.R Kd.string 9 w w0.heap.size (fun _ => True) v0 ws)
    (hC : ∀ W_, Kept w W_ (fun k => k = gW ∨ v0.ownBlock = some k) → Kd.C (Kd.int .i64) W_ A0 l0.length l0) (hc : l0.length ≤ c0) (hfit : ∀ x ∈ l0, -9223372036854775808 ≤ x ∧ x ≤ 9223372036854775807) (hlen : ws.length + l0.length ≤ 1000) (htab : Go.Proofs.YtmipaoobkjppdaaDoor.TabFnExactFormatScript.Tabs w0) :
    Calls Tryd.prog 74 #[.slice A0 l0.length c0, .pointer (some ⟨gW, 0, none⟩)] w fun e w' => e = .returned (.tuple #[]) ∧ ∃ v', w'.heap[gW]? = some (.cells #[v'] 62 (0, 0)) ∧ Kd.R Kd.string 9 w' w0.heap.size (fun _ => True) v' (ws ++ l0.map impl_formatInstr_1.S) ∧ Below w0.heap.size w0 w' ∧ Kept w w' (fun k => k = gW ∨ v0.ownBlock = some k) := by
  have HC0 := Aside0.mk hC
  have HFIT := Aside0.mk hfit
  have HLEN := Aside0.mk hlen
  have HTAB := Aside0.mk htab
  have HG := Aside0.mk hbg
  have X1 := Aside0.mk hB
  have X2 := Aside0.mk hbox
  have X3 := Aside0.mk hR
  clear hC hfit hlen htab hbg hB hbox hR hc
  go_enter Tryd.func74, Tryd.ntmps74
  go_wp2
  go_loopg [4, 7] l0.length (fun kq _ v7 w' => ∃ (kk : Nat) (v : Value), v7 = .int .i64 (kk : Int) ∧ Aside0 (kk ≤ l0.length ∧ l0.length - kk ≤ kq) ∧ Aside0 (w'.heap[gW]? = some (.cells #[v] 62 (0, 0))) ∧ Aside0 (Kd.R Kd.string 9 w' w0.heap.size (fun _ => True) v (ws ++ (l0.take kk).map impl_formatInstr_1.S)) ∧ Aside0 (Below w0.heap.size w0 w') ∧ Aside0 (Kept w w' (fun k => k = gW ∨ v0.ownBlock = some k)) ∧ Aside0 (v.ownBlock = v0.ownBlock ∨ ∃ b, v.ownBlock = some b ∧ w.heap.size ≤ b))
  case atStart => exact ⟨0, v0, rfl, ⟨by omega, by omega⟩, ⟨X2.out⟩, ⟨by simpa using X3.out⟩, ⟨X1.out⟩, ⟨Kept.refl _ _⟩, ⟨.inl rfl⟩⟩
  case round =>
    clear X1 X2 X3
    obtain ⟨kk, v, rfl, HK, BW, HW, HB, HKp, HAT⟩ := hrel
    by_cases hkl : kk < l0.length
    · have cq1 : (kk : Int) < (l0.length : Int) := by omega
      have c0_ : (0 : Int) ≤ (kk : Int) := by omega
      have c1b : decide ((kk : Int) < (l0.length : Int)) = true := decide_eq_true cq1
      have hkn : 0 < gk := by have := HK.out; omega
      have hci := HC0.out wr HKp.out
      obtain ⟨ad, e0, hx0⟩ := Kd.at_int hci (kk : Int) c0_ cq1
      cases e0
      simp only [Int.toNat_natCast] at hx0
      obtain ⟨n, hn⟩ : ∃ n, n = l0[kk] := ⟨_, rfl⟩
      have hrd : rd l0 (kk : Int) = n := by
        rw [hn]
        unfold rd
        rw [Int.toNat_natCast, List.getD_eq_getElem?_getD, List.getElem?_eq_getElem hkl]
        rfl
      rw [hrd] at hx0
      have hf := HFIT.out n (by rw [hn]; exact List.getElem_mem hkl)
      have AF := Aside0.mk (show impl_FormatInt.f n = some (impl_formatInstr_1.S n) from impl_formatInstr_1.fi n hf.1 hf.2)
      have HLY := Aside0.mk (show (ws ++ (l0.take kk).map impl_formatInstr_1.S).length ≤ 1000 from by have := HLEN.out; rw [List.length_append, List.length_map, List.length_take]; omega)
      have HTK := Aside0.mk (show ws ++ (l0.take (kk + 1)).map impl_formatInstr_1.S = (ws ++ (l0.take kk).map impl_formatInstr_1.S) ++ [impl_formatInstr_1.S n] from by rw [List.take_add_one, List.getElem?_eq_getElem hkl, hn, List.map_append, List.append_assoc]; rfl)
      obtain ⟨y, hy⟩ : ∃ y, y = ws ++ (l0.take kk).map impl_formatInstr_1.S := ⟨_, rfl⟩
      rw [← hy] at HW HLY HTK
      obtain ⟨Av, cv, ev⟩ := Kd.R_slice HW.out
      subst ev
      have hcw : wr.cell? ⟨gW, 0, none⟩ = some (.slice Av y.length cv) := (blk_cell BW.out 0).trans rfl
      have HL := Aside0.mk hkl
      have cq0b := eq_true c0_
      have c1c := eq_true cq1
      clear hkl cq1 c0_ hci hf hn hrd hy
      go_wp2
      have n1_ := Aside0.mk (blk_drew BW.out)
      have n2_ := Aside0.mk (Kd.R_drew HW.out)
      have n3_ := Aside0.mk (below_drew1 HB.out)
      have n4_ := Aside0.mk (Kept.drew HKp.out)
      clear BW HW HB HKp
      have BW := n1_
      have HW := n2_
      have HB := n3_
      have HKp := n4_
      clear n1_ n2_ n3_ n4_
      refine start_ (n := 6) (S := fun w' => w'.cell? ⟨gW, 0, none⟩ = some (.slice Av y.length cv)) (ds := [5]) #[false, false, false, false, false, false] (by kernel_rfl) rfl rfl ((blk_cell BW.out 0).trans rfl) (fun hHeld => ?_)
      generalize wr.drew = wd at BW HW HB HKp hHeld ⊢
      refine take_ (i := 0) (N := some 11) (v := ?_) (a' := ?_) #[true, false, false, false, false, false] rfl rfl (by kernel_rfl) (fun _ _ _ h => h) (Or.inl ⟨by rfl, ?_⟩) hHeld ?_ ?_
      rotate_left
      · intro w' s0
        go_simp
        with_reducible rfl
      rotate_left
      · simp only [Act.put, List.setIfInBounds_toArray, List.set_cons_zero, List.set_cons_succ, i64_w, i32_w]
        rfl
      refine pure_ (i := 1) (N := some 12) (v := ?_) (a' := ?_) #[true, true, false, false, false, false] rfl rfl (by kernel_rfl) (fun _ _ _ h => h) (Or.inl ⟨by rfl, ?_⟩) ?_ ?_
      rotate_left
      · intro w'
        go_simp
        with_reducible rfl
      rotate_left
      · simp only [Act.put, List.setIfInBounds_toArray, List.set_cons_zero, List.set_cons_succ, i64_w, i32_w]
        rfl
      refine one_ (i := 2) (N := some 13) #[true, true, true, false, false, false] rfl rfl (by kernel_rfl) (by decide) (fun K hK => ?_)
      refine goes_ Tryd.func75 (by kernel_rfl) rfl #[.int .i64 n] (by rfl) rfl rfl (by (try simp only [List.map_toArray, List.map_cons, List.map_nil]); first | done | rfl) ?_
      with_reducible refine (impl_FormatInt.calls n (impl_formatInstr_1.S n) _ AF.out ?tabF).mono ?_
      (case tabF => exact (HTAB.out).below (by repeat (first | (with_reducible first | exact HB.out | apply below_alloc | apply pw_below_drewN | apply below_drew1) | exact HB.out)))
      rintro e w1 ⟨rfl, hb⟩
      refine ⟨_, rfl, ?_⟩
      have n1_ := Aside0.mk (blk_below BW.out hb)
      have n2_ := Aside0.mk (Kd.R_below HW.out hb)
      have n3_ := Aside0.mk (below_step (by repeat (first | (with_reducible first | exact HB.out | apply below_alloc | apply pw_below_drewN | apply below_drew1) | exact HB.out)) hb)
      have n4_ := Aside0.mk (Kept.below HKp.out hb)
      clear BW HW HB HKp
      have BW := n1_
      have HW := n2_
      have HB := n3_
      have HKp := n4_
      clear n1_ n2_ n3_ n4_
      clear hb
      refine hK.out _ _ ((blk_cell BW.out 0).trans rfl) (fun hHeld => ?_)
      clear hK K
      refine norm_ (a' := ?_) ?_ ?_
      rotate_left
      · show Act.put _ (some 13) _ = _
        simp only [Act.put, List.setIfInBounds_toArray, List.set_cons_zero, List.set_cons_succ, i64_w, i32_w]
        rfl
      refine one_ (i := 3) (N := some 14) #[true, true, true, true, false, false] rfl rfl (by kernel_rfl) (by decide) (fun K hK => ?_)
      refine Kd.R_lit_step Kd.string _ 9 ?hg14 (N := 14) ?hd14 (xs := [impl_formatInstr_1.S n]) (inner := [.string (impl_formatInstr_1.S n)]) (ok := fun _ => True) (okp := fun _ => True) ?hr14 ?hp14 (fun _ hk => hk) trivial (Below.refl _ _) (Nat.le_refl _) (by simp) ?_
      (case hd14 => rfl)
      (case hg14 => rfl)
      (case hr14 => first | (go_simp; done) | (go_simp; rfl))
      (case hp14 => exact Kd.reps_scalar [impl_formatInstr_1.S n])
      intro v14 w2 ho hb hg_ hnew_
      obtain ⟨A14, c14, e14, hcl14, hC14⟩ := Kd.R_reads ho
      subst e14
      have HC14 := Aside0.mk hC14
      have n1_ := Aside0.mk (blk_below BW.out hb)
      have n2_ := Aside0.mk (Kd.R_below HW.out hb)
      have n3_ := Aside0.mk (below_step (by repeat (first | (with_reducible first | exact HB.out | apply below_alloc | apply pw_below_drewN | apply below_drew1) | exact HB.out)) hb)
      have n4_ := Aside0.mk (Kept.below HKp.out hb)
      clear BW HW HB HKp
      have BW := n1_
      have HW := n2_
      have HB := n3_
      have HKp := n4_
      clear n1_ n2_ n3_ n4_
      clear hb ho hg_ hnew_ hcl14 hC14
      refine hK.out _ _ ((blk_cell BW.out 0).trans rfl) (fun hHeld => ?_)
      clear hK K
      refine norm_ (a' := ?_) ?_ ?_
      rotate_left
      · show Act.put _ (some 14) _ = _
        simp only [Act.put, List.setIfInBounds_toArray, List.set_cons_zero, List.set_cons_succ, i64_w, i32_w]
        rfl
      refine one_ (i := 4) (N := some 15) #[true, true, true, true, true, false] rfl rfl (by kernel_rfl) (by decide) (fun K hK => ?_)
      refine Kd.R_append_rows_step Kd.string (w0 := w0) w0.heap.size (by rfl) (.tmp 11) (.tmp 14) 62 9 (.string ⟨#[]⟩) 16 rfl Tryd.underlying62 info9 rfl (by decide) (by omega) (.slice Av y.length cv) y [impl_formatInstr_1.S n] _ _ _ (fun _ => True) (fun _ => False) rfl rfl HW.out HC14.out (fun _ _ h => h) (fun _ h => h.elim) (fun _ _ => trivial) (by repeat (first | (with_reducible first | exact HB.out | apply below_alloc | apply pw_below_drewN | apply below_drew1) | exact HB.out)) (below_size (by repeat (first | (with_reducible first | exact HB.out | apply below_alloc | apply pw_below_drewN | apply below_drew1) | exact HB.out))) ?aL ?_
      (case aL => (have hl_ := HLY.out; simp only [List.length_singleton]; omega))
      intro v5 w3 ho hb hg hat
      obtain ⟨A5, c5, e5⟩ := Kd.R_slice ho
      subst e5
      have hne_ := Kd.R_ne HW.out BW.out (by decide)
      have n1_ := Aside0.mk ((hg.block gW (blk_lt BW.out) hne_).trans BW.out)
      have n4_ := Aside0.mk (Kept.of_grown hg HKp.out (fun k hk => HAT.out.elim (fun h => .inl (.inr (h.symm.trans hk))) (fun ⟨b, h1, h2⟩ => .inr (by rw [h1] at hk; cases hk; exact h2))))
      have n5_ := Aside0.mk (hat.elim (fun h => HAT.out.elim (fun h' => Or.inl (h.trans h')) (fun ⟨b, h1, h2⟩ => Or.inr ⟨b, h.trans h1, h2⟩)) (fun ⟨b, h1, h2⟩ => Or.inr ⟨b, h1, Nat.le_trans HKp.out.1 h2⟩) : (Value.slice A5 (y ++ [impl_formatInstr_1.S n]).length c5).ownBlock = v0.ownBlock ∨ ∃ b, (Value.slice A5 (y ++ [impl_formatInstr_1.S n]).length c5).ownBlock = some b ∧ w.heap.size ≤ b)
      have n2_ := Aside0.mk ho
      have n3_ := Aside0.mk hb
      clear BW HW HB HKp HAT
      have BW := n1_
      have HW := n2_
      have HB := n3_
      have HKp := n4_
      have HAT := n5_
      clear n1_ n2_ n3_ n4_ n5_ ho hb hg hat hne_
      refine hK.out _ _ ((blk_cell BW.out 0).trans rfl) (fun hHeld => ?_)
      clear hK K
      refine norm_ (a' := ?_) ?_ ?_
      rotate_left
      · show Act.put _ (some 15) _ = _
        simp only [Act.put, List.setIfInBounds_toArray, List.set_cons_zero, List.set_cons_succ, i64_w, i32_w]
        rfl
      refine last_ (i := 5) (N := none) #[true, true, true, true, true, true] rfl rfl (by kernel_rfl) (by decide) (fun K hK => ?_)
      rw [if_pos (by rfl)]
      unfold Oper.wp
      have hcw3 : w3.cell? ⟨gW, 0, none⟩ = some (.slice Av y.length cv) := (blk_cell BW.out 0).trans rfl
      have hfw3 := blk_frozen BW.out 0
      rw [show (execOp _ _).run _ _ = .ok .skip (w3.setCell ⟨gW, 0, none⟩ (.slice A5 (y ++ [impl_formatInstr_1.S n]).length c5)) from by first | (go_simp; done) | (go_simp; rfl)]
      obtain ⟨w4, hw⟩ : ∃ W_, W_ = w3.setCell ⟨gW, 0, none⟩ (.slice A5 (y ++ [impl_formatInstr_1.S n]).length c5) := ⟨_, rfl⟩
      rw [← hw]
      have n2_ := Aside0.mk (show Kd.R Kd.string 9 w4 w0.heap.size (fun _ => True) (.slice A5 (y ++ [impl_formatInstr_1.S n]).length c5) (y ++ [impl_formatInstr_1.S n]) from by rw [hw]; exact Kd.R_set HW.out BW.out (by decide) 0 _)
      have n1_ := Aside0.mk (show w4.heap[gW]? = some (.cells #[.slice A5 (y ++ [impl_formatInstr_1.S n]).length c5] 62 (0, 0)) from by rw [hw]; exact blk_put BW.out 0 _ rfl)
      have n3_ := Aside0.mk (show Below w0.heap.size w0 w4 from by rw [hw]; exact below_set HB.out HG.out)
      have n4_ := Aside0.mk (show Kept w w4 (fun k => k = gW ∨ v0.ownBlock = some k) from by rw [hw]; exact Kept.setCell HKp.out (.inl (.inl rfl)) _)
      clear BW HW HB HKp
      have BW := n1_
      have HW := n2_
      have HB := n3_
      have HKp := n4_
      clear n1_ n2_ n3_ n4_ hw
      refine hK.out _ _ ?_
      clear hK K
      refine done_ (by kernel_rfl) ?_
      go_wp2
      have ew : wrap64 ((kk : Int) + 1) = ((kk + 1 : Nat) : Int) := by have h1 := HL.out; have h2 := HLEN.out; unfold wrap64; omega
      go_roundg (gk - 1)
      case measure => omega
      case rel => exact ⟨kk + 1, _, by rw [ew], ⟨by have := HK.out; have := HL.out; omega⟩, BW, ⟨by rw [HTK.out]; exact HW.out⟩, HB, HKp, HAT⟩
    · have hk : kk = l0.length := by have := HK.out.1; omega
      subst hk
      have c1b : decide ((l0.length : Int) < (l0.length : Int)) = false := decide_eq_false (by omega)
      have hW := HW.out
      rw [List.take_length] at hW
      go_wp2
      first | go_end0 | ((try simp only [Exit.inBlock, Exit.then]); refine bodyPost_ret (results_none rfl _ _ _) rfl ?_)
      exact ⟨rfl, v, BW.out, hW, HB.out, HKp.out⟩


/-! ### strings_Join: function 76 (by hand) -/
def strings_Join.J (y : List ByteArray) : ByteArray := ⟨(Go.Lib.join (y.map (·.data.toList)) [32]).toArray⟩
theorem strings_Join.at (v : Value) (y : List ByteArray) (hy : 0 < y.length) (b : Nat) (ok : Nat → Prop) (w : World) (hR : Kd.R Kd.string 9 w b ok v y) (hN : y.length ≤ 1000) (hlen : (Go.Lib.join (y.map (·.data.toList)) [32]).length ≤ 140737488355328) :
    Calls Tryd.prog 76 #[v, .string ⟨#[32]⟩] w fun e w' => e = .returned (.string (strings_Join.J y)) ∧ Below w.heap.size w w' := by
  obtain ⟨g, cap, rfl, hb, hg, _⟩ := Kd.R_form hR hy
  have hc := (Kd.R_reads' hR).2.1
  have hj : Calls Tryd.prog 76 #[.slice (some ⟨g, 0, none⟩) y.length cap, .string ⟨#[32]⟩] w _ := Go.Proofs.Any.strings_Join Tryd.lay156 Tryd.ext156 g 0 cap y ⟨#[32]⟩ w (fun j x hx => by
    have hj := (List.getElem?_eq_some_iff.1 hx).1
    have h1 := (Kd.R_cell ByteArray.empty hR (j : Int) (by omega) (by omega)).1
    rw [Int.toNat_natCast] at h1
    rw [Nat.zero_add, h1]
    unfold rdOf
    rw [Int.toNat_natCast, List.getD_eq_getElem?_getD, hx]
    rfl) hg (by omega) hc hlen
  exact hj


end Go.Proofs.YtmipaoobkjppdaaDoor.QFnExactFormatScript
