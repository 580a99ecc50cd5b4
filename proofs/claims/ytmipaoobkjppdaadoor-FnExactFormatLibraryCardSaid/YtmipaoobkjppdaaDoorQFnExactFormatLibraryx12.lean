-- Written by a program of this session, after the kit's print, with contracts by hand.
import Derived.Test.YtmipaoobkjppdaaDoorQFnExactFormatLibraryx0
import Derived.Test.YtmipaoobkjppdaaDoorQFnExactFormatLibraryx10
import Derived.Test.YtmipaoobkjppdaaDoorQFnExactFormatLibraryx11
namespace Go.Proofs.YtmipaoobkjppdaaDoor.QFnExactFormatLibrary
open Go.RowKit Go.Proofs.YtmipaoobkjppdaaDoorW.PrintWords Go.Proofs.YtmipaoobkjppdaaDoorW.PrintLast Go.Proofs.YtmipaoobkjppdaaDoorW.PrintMore
attribute [local go_sem] max2_int min2_int max_two min_two max_three min_three max_four min_four   -- for this text's walks alone
set_option linter.unusedVariables false
set_option linter.unusedSimpArgs false

/-! ### impl_Instr_116: function 116 (by hand) -/
set_option maxHeartbeats 8000000 in
set_option maxRecDepth 100000 in
theorem impl_Instr_116.at (g : Nat) (lb : Array Value) (eg : ∀ args w, (callFunc g args).run Tryd.prog w = .ok (.enter g args) w) (q : S27 → Option Bool) (A0 : Option Addr) (c0 : Nat) (l0 : List S27) (r : Int) (w : World) (hr0 : Kd.C k27 w A0 l0.length l0) (hc0 : l0.length ≤ c0) (hbig : l0.length < 4611686018427387904)
    (hp : ∀ (W : World) (i : Nat) (b : Bool), Below w.heap.size w W → i < l0.length → q (rd_T27 l0 (i : Int)) = some b → Calls Tryd.prog g (#[.agg #[.int .i64 (rd_T27 l0 (i : Int)).f0, .int .i64 (rd_T27 l0 (i : Int)).f1, .int .i64 (rd_T27 l0 (i : Int)).f2, .int .i64 (rd_T27 l0 (i : Int)).f3, .int .i64 (rd_T27 l0 (i : Int)).f4, .string (rd_T27 l0 (i : Int)).f5]] ++ lb) W fun e w' => e = .returned (.bool b) ∧ Below w.heap.size w w')
    (h : Go.Proofs.YtmipaoobkjppdaaDoor.Func.idxO q l0 0 = some r) : Calls Tryd.prog 116 #[.slice A0 l0.length c0, .func (.func g) #[] lb] w fun e w' => e = .returned (.int .i64 r) ∧ Below w.heap.size w w' := by
  have hu27 := Tryd.underlying27
  have HR0 := Aside0.mk hr0
  have HC0 := Aside0.mk hc0
  have HP := Aside0.mk hp
  have LB := Aside0.mk hbig
  clear hbig
  have HA0 := Aside0.mk h
  clear hr0 hc0 hp h
  go_enter Tryd.func116, Tryd.ntmps116
  go_wp2
  go_loopg [5, 8] l0.length (fun kq _ v8 w' => ∃ kk : Nat, v8 = .int .i64 (kk : Int) ∧ Aside0 (kk ≤ l0.length ∧ l0.length - kk ≤ kq) ∧ Aside0 (Go.Proofs.YtmipaoobkjppdaaDoor.Func.idxO q (l0.drop kk) (kk : Int) = some r) ∧ Aside0 (Below w.heap.size w w'))
  case atStart => exact ⟨0, rfl, ⟨by omega, by omega⟩, ⟨HA0.out⟩, ⟨Below.refl _ _⟩⟩
  case round =>
    clear HA0
    obtain ⟨kk, rfl, HK, HA, HB⟩ := hrel
    by_cases hkl : kk < l0.length
    · have cq1 : (kk : Int) < (l0.length : Int) := by omega
      have c0_ : (0 : Int) ≤ (kk : Int) := by omega
      have c1b : decide ((kk : Int) < (l0.length : Int)) = true := decide_eq_true cq1
      have hkn : 0 < gk := by have := HK.out; omega
      obtain ⟨ad, e0, hx0, hx1, hx2, hx3, hx4, hx5⟩ := at_T27 HR0.out (kk : Int) c0_ cq1
      cases e0
      replace hx0 := (HB.out.cell (World.block_lt_of_cell? w _ hx0)).trans hx0
      simp only [Int.toNat_natCast] at hx0
      replace hx1 := (HB.out.cell (World.block_lt_of_cell? w _ hx1)).trans hx1
      simp only [Int.toNat_natCast] at hx1
      replace hx2 := (HB.out.cell (World.block_lt_of_cell? w _ hx2)).trans hx2
      simp only [Int.toNat_natCast] at hx2
      replace hx3 := (HB.out.cell (World.block_lt_of_cell? w _ hx3)).trans hx3
      simp only [Int.toNat_natCast] at hx3
      replace hx4 := (HB.out.cell (World.block_lt_of_cell? w _ hx4)).trans hx4
      simp only [Int.toNat_natCast] at hx4
      replace hx5 := (HB.out.cell (World.block_lt_of_cell? w _ hx5)).trans hx5
      simp only [Int.toNat_natCast] at hx5
      have HA1 := HA.out
      rw [Go.Proofs.YtmipaoobkjppdaaDoor.Func.idxO_step q l0 z27 kk hkl] at HA1
      obtain ⟨b, hb0, HA2⟩ := Option.bind_eq_some_iff.mp HA1
      clear HA1 HA
      have hcall := HP.out wr kk b  HB.out hkl  hb0
      have cq0b := eq_true c0_
      have c1c := eq_true cq1
      have HL := Aside0.mk hkl
      clear hkl cq1 c0_ hb0 
      cases b with
      | true =>
        have hr : (kk : Int) = r := Option.some.inj HA2
        subst hr
        clear HA2
        go_wp2_with (go_at_fn g; refine hcall.mono ?_; rintro e w' ⟨rfl, hb'⟩)
        go_ret
        exact ⟨rfl, hb'⟩
      | false =>
        have HA := Aside0.mk HA2
        clear HA2
        go_wp2_with (go_at_fn g; refine hcall.mono ?_; rintro e w' ⟨rfl, hb'⟩)
        have ew : wrap64 ((kk : Int) + 1) = ((kk + 1 : Nat) : Int) := by have h1 := HL.out; have h2 := LB.out; unfold wrap64; omega
        go_roundg (gk - 1)
        case measure => omega
        case rel => exact ⟨kk + 1, by rw [ew], ⟨by have := HK.out; have := HL.out; omega⟩, ⟨HA.out⟩, ⟨hb'⟩⟩
    · have hk : kk = l0.length := by have := HK.out.1; omega
      subst hk
      have c1b : decide ((l0.length : Int) < (l0.length : Int)) = false := decide_eq_false (by omega)
      have hr : (-1 : Int) = r := by
        have h1 := HA.out
        rw [List.drop_length] at h1
        exact Option.some.inj h1
      subst hr
      go_wp2
      go_ret
      exact ⟨rfl, HB.out⟩
/-! ### impl_Instr_99: function 99 (by hand) -/
set_option maxHeartbeats 8000000 in
set_option maxRecDepth 100000 in
theorem impl_Instr_99.at (g : Nat) (lb : Array Value) (eg : ∀ args w, (callFunc g args).run Tryd.prog w = .ok (.enter g args) w) (q : S27 → Option Bool) (A0 : Option Addr) (c0 : Nat) (l0 : List S27) (r : Int) (w : World) (hr0 : Kd.C k27 w A0 l0.length l0) (hc0 : l0.length ≤ c0) (hbig : l0.length < 4611686018427387904)
    (hp : ∀ (W : World) (i : Nat) (b : Bool), Below w.heap.size w W → i < l0.length → q (rd_T27 l0 (i : Int)) = some b → Calls Tryd.prog g (#[.agg #[.int .i64 (rd_T27 l0 (i : Int)).f0, .int .i64 (rd_T27 l0 (i : Int)).f1, .int .i64 (rd_T27 l0 (i : Int)).f2, .int .i64 (rd_T27 l0 (i : Int)).f3, .int .i64 (rd_T27 l0 (i : Int)).f4, .string (rd_T27 l0 (i : Int)).f5]] ++ lb) W fun e w' => e = .returned (.bool b) ∧ Below w.heap.size w w')
    (h : Go.Proofs.YtmipaoobkjppdaaDoor.Func.idxO q l0 0 = some r) : Calls Tryd.prog 99 #[.slice A0 l0.length c0, .func (.func g) #[] lb] w fun e w' => e = .returned (.bool (decide (r ≥ 0))) ∧ Below w.heap.size w w' := by
  have hcall := impl_Instr_116.at g lb eg q A0 c0 l0 r w hr0 hc0 hbig hp h
  clear hr0 hc0 hbig hp h
  have e116 : ∀ args w, (callFunc 116 args).run Tryd.prog w = .ok (.enter 116 args) w := enters_of Tryd.func116 (by kernel_rfl) rfl
  go_enter Tryd.func99, Tryd.ntmps99
  go_wp2_with (go_at_fn 116; refine hcall.mono ?_; rintro e w' ⟨rfl, hb'⟩)
  go_ret
  exact ⟨rfl, hb'⟩
/-! ### impl_isMethod_1: function 100 -/
def impl_isMethod_1.f (k : Nat) (a0_0 : Int) (a0_1 : Int) (a0_2 : Int) (a0_3 : Int) (a0_4 : Int) (a0_5 : ByteArray) : Option (Bool) := (impl_isInstr.f k a0_0 a0_1 a0_2 a0_3 a0_4 a0_5).bind fun t259 => (some (!t259))
theorem impl_isMethod_1.mono : ∀ a0 a1 a2 a3 a4 a5 k, LeO (impl_isMethod_1.f k a0 a1 a2 a3 a4 a5) (impl_isMethod_1.f (k + 1) a0 a1 a2 a3 a4 a5) := by
  intro a0 a1 a2 a3 a4 a5 k
  unfold impl_isMethod_1.f
  repeat' first
      | (with_reducible exact impl_isInstr.mono _ _ _ _ _ _ _)
      | (with_reducible exact LeO.refl _)
      | (with_reducible exact LeO.none _)
      | (with_reducible refine LeO.ite ?_ ?_)
      | (with_reducible refine LeO.bind ?_ (fun _ => ?_))
      | exact impl_isInstr.mono _ _ _ _ _ _ _
      | exact LeO.none _
      | refine LeO.ite ?_ ?_
      | refine LeO.bind ?_ (fun _ => ?_)
set_option maxHeartbeats 8000000 in
set_option maxRecDepth 100000 in
theorem impl_isMethod_1.calls (k : Nat) (a0_0 : Int) (a0_1 : Int) (a0_2 : Int) (a0_3 : Int) (a0_4 : Int) (a0_5 : ByteArray) (r : Bool) (w : World) (h : impl_isMethod_1.f k a0_0 a0_1 a0_2 a0_3 a0_4 a0_5 = some r) :
    Calls Tryd.prog 100 #[.agg #[.int .i64 a0_0, .int .i64 a0_1, .int .i64 a0_2, .int .i64 a0_3, .int .i64 a0_4, .string a0_5]] w fun e w' => e = .returned (.bool r) ∧ Below w.heap.size w w' := by
  have hu27 := Tryd.underlying27
  have HB := Aside0.mk (Below.refl w.heap.size w)
  have H : ((impl_isInstr.f k a0_0 a0_1 a0_2 a0_3 a0_4 a0_5).bind fun t259 => (some (!t259))) = some r := h
  clear h
  replace H := Option.bind_eq_some_iff.mp H
  obtain ⟨t259, A20, H⟩ := H
  replace H : (some (!t259)) = some r := H
  have A2 := Aside0.mk A20
  clear A20
  obtain rfl := Option.some.inj H
  go_enter Tryd.func100, Tryd.ntmps100
  go_wp2_with (first | ((with_reducible refine gate_dst (N := 1) rfl ?_); refine box_event ?hg (N := 1) ?hd (cs := #[.int .i64 a0_0, .int .i64 a0_1, .int .i64 a0_2, .int .i64 a0_3, .int .i64 a0_4, .string a0_5]) (t := 27) ?hr ?_; (case hd => rfl); (case hg => rfl); (case hr => first | (go_simp; done) | (go_simp; rfl)); intro gb258 hg w3 hbox hb; have n0_ := Aside0.mk (below_step (by repeat (first | (with_reducible first | exact HB.out | apply below_alloc | apply pw_below_drewN | apply below_drew1) | exact HB.out)) hb); have n1_ := Aside0.mk (hbox); have n2_ := Aside0.mk ((by rw [hg]; exact (below_size (by repeat (first | (with_reducible first | exact HB.out | apply below_alloc | apply pw_below_drewN | apply below_drew1) | exact HB.out))) : w.heap.size ≤ gb258)); have n3_ := Aside0.mk ((by rw [hg]; exact (below_size (by repeat (first | (with_reducible first | exact HB.out | apply below_alloc | apply pw_below_drewN | apply below_drew1) | exact HB.out))) : w.heap.size ≤ gb258)); clear HB; have HB := n0_; have BK258 := n1_; have GW258 := n2_; have GE258 := n3_; clear n0_ n1_ n2_ n3_; clear hb hbox hg; have hcz4_0 : w3.cell? ⟨gb258, 0, none⟩ = some (.int .i64 a0_0) := (blk_cell BK258.out 0).trans rfl; have hcz4_1 : w3.cell? ⟨gb258, 1, none⟩ = some (.int .i64 a0_1) := (blk_cell BK258.out 1).trans rfl; have hcz4_2 : w3.cell? ⟨gb258, 2, none⟩ = some (.int .i64 a0_2) := (blk_cell BK258.out 2).trans rfl; have hcz4_3 : w3.cell? ⟨gb258, 3, none⟩ = some (.int .i64 a0_3) := (blk_cell BK258.out 3).trans rfl; have hcz4_4 : w3.cell? ⟨gb258, 4, none⟩ = some (.int .i64 a0_4) := (blk_cell BK258.out 4).trans rfl; have hcz4_5 : w3.cell? ⟨gb258, 5, none⟩ = some (.string a0_5) := (blk_cell BK258.out 5).trans rfl; have hfz4_0 := blk_frozen BK258.out 0; have hfz4_1 := blk_frozen BK258.out 1; have hfz4_2 := blk_frozen BK258.out 2; have hfz4_3 := blk_frozen BK258.out 3; have hfz4_4 := blk_frozen BK258.out 4; have hfz4_5 := blk_frozen BK258.out 5) | ((with_reducible refine gate_callee (f := 43) rfl ?_); refine goesL_ (some 4) rfl rfl Tryd.func43 (by kernel_rfl) rfl #[.agg #[.int .i64 a0_0, .int .i64 a0_1, .int .i64 a0_2, .int .i64 a0_3, .int .i64 a0_4, .string a0_5]] rfl (by (try simp only [List.map_toArray, List.map_cons, List.map_nil]); first | done | rfl | (simp only [List.length_drop, List.length_take]; rfl)) ?_; (with_reducible refine (impl_isInstr.calls k a0_0 a0_1 a0_2 a0_3 a0_4 a0_5 t259 _ A2.out).mono ?_); rintro e w5 ⟨rfl, hb⟩; refine ⟨_, rfl, ?_⟩; have n0_ := Aside0.mk (blk_below (g := gb258) (o := .cells #[.int .i64 a0_0, .int .i64 a0_1, .int .i64 a0_2, .int .i64 a0_3, .int .i64 a0_4, .string a0_5] 27 (0, 0)) (by (with_reducible repeat (first | refine blk_drewN ?_ _ | refine blk_drew ?_ | refine blk_alloc ?_ _)); exact BK258.out) hb); have n1_ := Aside0.mk (below_step (by repeat (first | (with_reducible first | exact HB.out | apply below_alloc | apply pw_below_drewN | apply below_drew1 | refine below_set ?_ GE258.out) | exact HB.out)) hb); clear BK258; clear HB; have BK258 := n0_; have HB := n1_; clear n0_ n1_; (try clear hb); (try clear hb2); (try clear hk); (try clear hi)))
  go_ret
  exact ⟨by first | rfl | (simp [errW_none, errW_some] <;> rfl) | (simp [*, errW_none, errW_some] <;> rfl), by repeat (first | (with_reducible first | exact HB.out | apply below_alloc | apply pw_below_drewN | apply below_drew1 | refine below_set ?_ GE258.out) | exact HB.out)⟩
/-! ### impl_isMethod: function 80 (by hand) -/
def impl_isMethod.f (k : Nat) (a0_0 : ByteArray) (l0_1 : List S27) : Option (Bool) := (impl_isName.f k a0_0).bind fun t => if t = true then (if (l0_1.length : Int) ≤ 12 then ((Go.Proofs.YtmipaoobkjppdaaDoor.Func.idxO (fun x : S27 => impl_isMethod_1.f k x.f0 x.f1 x.f2 x.f3 x.f4 x.f5) l0_1 0).bind fun t2 => some (!(decide (t2 ≥ 0)))) else some false) else some false
theorem impl_isMethod.mono : ∀ a0 a1 k, LeO (impl_isMethod.f k a0 a1) (impl_isMethod.f (k + 1) a0 a1) := by
  intro a0 a1 k
  unfold impl_isMethod.f
  exact LeO.bind (impl_isName.mono _ _) fun _ => LeO.ite (LeO.ite (LeO.bind (Go.Proofs.YtmipaoobkjppdaaDoor.Func.idxO_mono (fun x => impl_isMethod_1.mono _ _ _ _ _ _ _) _ _) fun _ => LeO.refl _) (LeO.refl _)) (LeO.refl _)
set_option maxHeartbeats 8000000 in
set_option maxRecDepth 100000 in
theorem impl_isMethod.calls (k : Nat) (a0_0 : ByteArray) (A0_1 : Option Addr) (c0_1 : Nat) (l0_1 : List (S27)) (r : Bool) (w : World) (hr0_1 : Kd.C k27 w A0_1 l0_1.length l0_1) (hc0_1 : l0_1.length ≤ c0_1) (h : impl_isMethod.f k a0_0 l0_1 = some r) :
    Calls Tryd.prog 80 #[.agg #[.string a0_0, .slice A0_1 l0_1.length c0_1]] w fun e w' => e = .returned (.bool r) ∧ Below w.heap.size w w' := by
  have hu72 := Tryd.underlying72
  have hu27 := Tryd.underlying27
  have e100 : ∀ args w, (callFunc 100 args).run Tryd.prog w = .ok (.enter 100 args) w := enters_of Tryd.func100 (by kernel_rfl) rfl
  have HR0_1 := Aside0.mk hr0_1
  have HC0_1 := Aside0.mk hc0_1
  clear hr0_1 hc0_1
  have HB := Aside0.mk (Below.refl w.heap.size w)
  unfold impl_isMethod.f at h
  obtain ⟨t, At, H⟩ := Option.bind_eq_some_iff.mp h
  clear h
  have A1 := Aside0.mk At
  clear At
  cases t with
  | false =>
    obtain rfl := Option.some.inj H
    clear H
    go_enter Tryd.func80, Tryd.ntmps80
    go_wp2_with (first | ((with_reducible refine gate_dst (N := 1) rfl ?_); (try (refine gate_guard (by rfl) ?_; dsimp only)); refine box_event ?hg (N := 1) ?hd (cs := #[.string a0_0, .slice A0_1 l0_1.length c0_1]) (t := 72) ?hr ?_; (case hd => rfl); (case hg => rfl); (case hr => first | (go_simp; done) | (go_simp; rfl)); intro gb1 hg w1 hbox hb; have n0_ := Aside0.mk (below_step (by repeat (first | (with_reducible first | exact HB.out | apply below_alloc | apply pw_below_drewN | apply below_drew1) | exact HB.out)) hb); have n1_ := Aside0.mk (hbox); have n2_ := Aside0.mk ((by rw [hg]; exact (below_size (by repeat (first | (with_reducible first | exact HB.out | apply below_alloc | apply pw_below_drewN | apply below_drew1) | exact HB.out)))) : w.heap.size ≤ gb1); clear HB; have HB := n0_; have BK := n1_; have GE := n2_; clear n0_ n1_ n2_; clear hb hbox hg; have hcz_0 : w1.cell? ⟨gb1, 0, none⟩ = some (.string a0_0) := (blk_cell BK.out 0).trans rfl; have hfz_0 := blk_frozen BK.out 0; have hcz_1 : w1.cell? ⟨gb1, 1, none⟩ = some (.slice A0_1 l0_1.length c0_1) := (blk_cell BK.out 1).trans rfl; have hfz_1 := blk_frozen BK.out 1) | (go_at_call 73; (with_reducible refine (impl_isName.calls k a0_0 false _ A1.out).mono ?_); rintro e w' ⟨rfl, ⟨nd, rfl⟩⟩))
    go_ret
    exact ⟨by first | rfl | (simp; done), by repeat (first | (with_reducible first | exact HB.out | apply below_alloc | apply pw_below_drewN | apply below_drew1 | refine below_set ?_ GE.out) | exact HB.out)⟩
  | true =>
    rw [if_pos rfl] at H
    by_cases c : (l0_1.length : Int) ≤ 12
    · rw [if_pos c] at H
      have cb : decide ((l0_1.length : Int) ≤ 12) = true := decide_eq_true c
      have LB := Aside0.mk c
      clear c
      obtain ⟨t2, At2, H2⟩ := Option.bind_eq_some_iff.mp H
      clear H
      have A2 := Aside0.mk At2
      clear At2
      obtain rfl := Option.some.inj H2
      clear H2
      go_enter Tryd.func80, Tryd.ntmps80
      go_wp2_with (first | ((with_reducible refine gate_dst (N := 1) rfl ?_); (try (refine gate_guard (by rfl) ?_; dsimp only)); refine box_event ?hg (N := 1) ?hd (cs := #[.string a0_0, .slice A0_1 l0_1.length c0_1]) (t := 72) ?hr ?_; (case hd => rfl); (case hg => rfl); (case hr => first | (go_simp; done) | (go_simp; rfl)); intro gb1 hg w1 hbox hb; have n0_ := Aside0.mk (below_step (by repeat (first | (with_reducible first | exact HB.out | apply below_alloc | apply pw_below_drewN | apply below_drew1) | exact HB.out)) hb); have n1_ := Aside0.mk (hbox); have n2_ := Aside0.mk ((by rw [hg]; exact (below_size (by repeat (first | (with_reducible first | exact HB.out | apply below_alloc | apply pw_below_drewN | apply below_drew1) | exact HB.out)))) : w.heap.size ≤ gb1); clear HB; have HB := n0_; have BK := n1_; have GE := n2_; clear n0_ n1_ n2_; clear hb hbox hg; have hcz_0 : w1.cell? ⟨gb1, 0, none⟩ = some (.string a0_0) := (blk_cell BK.out 0).trans rfl; have hfz_0 := blk_frozen BK.out 0; have hcz_1 : w1.cell? ⟨gb1, 1, none⟩ = some (.slice A0_1 l0_1.length c0_1) := (blk_cell BK.out 1).trans rfl; have hfz_1 := blk_frozen BK.out 1) | (go_at_call 73; (with_reducible refine (impl_isName.calls k a0_0 true _ A1.out).mono ?_); rintro e w' ⟨rfl, ⟨nd, rfl⟩⟩) | (go_at_call 99; refine (impl_Instr_99.at 100 #[] e100 (fun x : S27 => impl_isMethod_1.f k x.f0 x.f1 x.f2 x.f3 x.f4 x.f5) A0_1 c0_1 l0_1 t2 _ ?hr HC0_1.out ?hl ?hp A2.out).mono ?_; (case hr => exact Kd.C_below HR0_1.out (by repeat (first | (with_reducible first | exact HB.out | apply below_alloc | apply pw_below_drewN | apply below_drew1 | refine below_set ?_ GE.out) | exact HB.out))); (case hl => have := LB.out; omega); (case hp => intro W i b hb hi hq; rw [Array.append_empty]; refine (impl_isMethod_1.calls k (rd_T27 l0_1 (i : Int)).f0 (rd_T27 l0_1 (i : Int)).f1 (rd_T27 l0_1 (i : Int)).f2 (rd_T27 l0_1 (i : Int)).f3 (rd_T27 l0_1 (i : Int)).f4 (rd_T27 l0_1 (i : Int)).f5 b W hq).mono ?_; rintro e w' ⟨rfl, hb'⟩; exact ⟨rfl, below_step hb hb'⟩); rintro e w' ⟨rfl, hb'⟩; have n0_ := Aside0.mk (below_step (by repeat (first | (with_reducible first | exact HB.out | apply below_alloc | apply pw_below_drewN | apply below_drew1 | refine below_set ?_ GE.out) | exact HB.out)) hb'); clear HB; have HB := n0_; clear n0_ hb'))
      go_ret
      exact ⟨by first | rfl | (simp; done), by repeat (first | (with_reducible first | exact HB.out | apply below_alloc | apply pw_below_drewN | apply below_drew1 | refine below_set ?_ GE.out) | exact HB.out)⟩
    · rw [if_neg c] at H
      have cb : decide ((l0_1.length : Int) ≤ 12) = false := decide_eq_false c
      clear c
      obtain rfl := Option.some.inj H
      clear H
      go_enter Tryd.func80, Tryd.ntmps80
      go_wp2_with (first | ((with_reducible refine gate_dst (N := 1) rfl ?_); (try (refine gate_guard (by rfl) ?_; dsimp only)); refine box_event ?hg (N := 1) ?hd (cs := #[.string a0_0, .slice A0_1 l0_1.length c0_1]) (t := 72) ?hr ?_; (case hd => rfl); (case hg => rfl); (case hr => first | (go_simp; done) | (go_simp; rfl)); intro gb1 hg w1 hbox hb; have n0_ := Aside0.mk (below_step (by repeat (first | (with_reducible first | exact HB.out | apply below_alloc | apply pw_below_drewN | apply below_drew1) | exact HB.out)) hb); have n1_ := Aside0.mk (hbox); have n2_ := Aside0.mk ((by rw [hg]; exact (below_size (by repeat (first | (with_reducible first | exact HB.out | apply below_alloc | apply pw_below_drewN | apply below_drew1) | exact HB.out)))) : w.heap.size ≤ gb1); clear HB; have HB := n0_; have BK := n1_; have GE := n2_; clear n0_ n1_ n2_; clear hb hbox hg; have hcz_0 : w1.cell? ⟨gb1, 0, none⟩ = some (.string a0_0) := (blk_cell BK.out 0).trans rfl; have hfz_0 := blk_frozen BK.out 0; have hcz_1 : w1.cell? ⟨gb1, 1, none⟩ = some (.slice A0_1 l0_1.length c0_1) := (blk_cell BK.out 1).trans rfl; have hfz_1 := blk_frozen BK.out 1) | (go_at_call 73; (with_reducible refine (impl_isName.calls k a0_0 true _ A1.out).mono ?_); rintro e w' ⟨rfl, ⟨nd, rfl⟩⟩))
      go_ret
      exact ⟨by first | rfl | (simp; done), by repeat (first | (with_reducible first | exact HB.out | apply below_alloc | apply pw_below_drewN | apply below_drew1 | refine below_set ?_ GE.out) | exact HB.out)⟩
/-! ### impl_Method_101: function 101 (by hand) -/
set_option maxHeartbeats 8000000 in
set_option maxRecDepth 100000 in
theorem impl_Method_101.at (g : Nat) (lb : Array Value) (eg : ∀ args w, (callFunc g args).run Tryd.prog w = .ok (.enter g args) w) (q : S72 → Option Bool) (A0 : Option Addr) (c0 : Nat) (l0 : List S72) (r : Int) (w : World) (hr0 : Kd.C k72 w A0 l0.length l0) (hc0 : l0.length ≤ c0) (hbig : l0.length < 4611686018427387904)
    (hp : ∀ (W : World) (i : Nat) (b : Bool) (A1 : Option Addr) (c1 : Nat), Below w.heap.size w W → i < l0.length → (rd_T72 l0 (i : Int)).f1.length ≤ c1 → Kd.C k27 w A1 (rd_T72 l0 (i : Int)).f1.length (rd_T72 l0 (i : Int)).f1 → q (rd_T72 l0 (i : Int)) = some b → Calls Tryd.prog g (#[.agg #[.string (rd_T72 l0 (i : Int)).f0, .slice A1 (rd_T72 l0 (i : Int)).f1.length c1]] ++ lb) W fun e w' => e = .returned (.bool b) ∧ Below w.heap.size w w')
    (h : Go.Proofs.YtmipaoobkjppdaaDoor.Func.idxO q l0 0 = some r) : Calls Tryd.prog 101 #[.slice A0 l0.length c0, .func (.func g) #[] lb] w fun e w' => e = .returned (.int .i64 r) ∧ Below w.heap.size w w' := by
  have hu72 := Tryd.underlying72
  have HR0 := Aside0.mk hr0
  have HC0 := Aside0.mk hc0
  have HP := Aside0.mk hp
  have LB := Aside0.mk hbig
  clear hbig
  have HA0 := Aside0.mk h
  clear hr0 hc0 hp h
  go_enter Tryd.func101, Tryd.ntmps101
  go_wp2
  go_loopg [5, 8] l0.length (fun kq _ v8 w' => ∃ kk : Nat, v8 = .int .i64 (kk : Int) ∧ Aside0 (kk ≤ l0.length ∧ l0.length - kk ≤ kq) ∧ Aside0 (Go.Proofs.YtmipaoobkjppdaaDoor.Func.idxO q (l0.drop kk) (kk : Int) = some r) ∧ Aside0 (Below w.heap.size w w'))
  case atStart => exact ⟨0, rfl, ⟨by omega, by omega⟩, ⟨HA0.out⟩, ⟨Below.refl _ _⟩⟩
  case round =>
    clear HA0
    obtain ⟨kk, rfl, HK, HA, HB⟩ := hrel
    by_cases hkl : kk < l0.length
    · have cq1 : (kk : Int) < (l0.length : Int) := by omega
      have c0_ : (0 : Int) ≤ (kk : Int) := by omega
      have c1b : decide ((kk : Int) < (l0.length : Int)) = true := decide_eq_true cq1
      have hkn : 0 < gk := by have := HK.out; omega
      obtain ⟨ad, A1, c1, e0, hx0, hx1, hl1, hC1⟩ := at_T72 HR0.out (kk : Int) c0_ cq1
      cases e0
      replace hx0 := (HB.out.cell (World.block_lt_of_cell? w _ hx0)).trans hx0
      simp only [Int.toNat_natCast] at hx0
      replace hx1 := (HB.out.cell (World.block_lt_of_cell? w _ hx1)).trans hx1
      simp only [Int.toNat_natCast] at hx1
      have HA1 := HA.out
      rw [Go.Proofs.YtmipaoobkjppdaaDoor.Func.idxO_step q l0 z72 kk hkl] at HA1
      obtain ⟨b, hb0, HA2⟩ := Option.bind_eq_some_iff.mp HA1
      clear HA1 HA
      have hcall := HP.out wr kk b A1 c1 HB.out hkl hl1 hC1 hb0
      have cq0b := eq_true c0_
      have c1c := eq_true cq1
      have HL := Aside0.mk hkl
      clear hkl cq1 c0_ hb0 hl1 hC1
      cases b with
      | true =>
        have hr : (kk : Int) = r := Option.some.inj HA2
        subst hr
        clear HA2
        go_wp2_with (go_at_fn g; refine hcall.mono ?_; rintro e w' ⟨rfl, hb'⟩)
        go_ret
        exact ⟨rfl, hb'⟩
      | false =>
        have HA := Aside0.mk HA2
        clear HA2
        go_wp2_with (go_at_fn g; refine hcall.mono ?_; rintro e w' ⟨rfl, hb'⟩)
        have ew : wrap64 ((kk : Int) + 1) = ((kk + 1 : Nat) : Int) := by have h1 := HL.out; have h2 := LB.out; unfold wrap64; omega
        go_roundg (gk - 1)
        case measure => omega
        case rel => exact ⟨kk + 1, by rw [ew], ⟨by have := HK.out; have := HL.out; omega⟩, ⟨HA.out⟩, ⟨hb'⟩⟩
    · have hk : kk = l0.length := by have := HK.out.1; omega
      subst hk
      have c1b : decide ((l0.length : Int) < (l0.length : Int)) = false := decide_eq_false (by omega)
      have hr : (-1 : Int) = r := by
        have h1 := HA.out
        rw [List.drop_length] at h1
        exact Option.some.inj h1
      subst hr
      go_wp2
      go_ret
      exact ⟨rfl, HB.out⟩
/-! ### impl_Method_81: function 81 (by hand) -/
set_option maxHeartbeats 8000000 in
set_option maxRecDepth 100000 in
theorem impl_Method_81.at (g : Nat) (lb : Array Value) (eg : ∀ args w, (callFunc g args).run Tryd.prog w = .ok (.enter g args) w) (q : S72 → Option Bool) (A0 : Option Addr) (c0 : Nat) (l0 : List S72) (r : Int) (w : World) (hr0 : Kd.C k72 w A0 l0.length l0) (hc0 : l0.length ≤ c0) (hbig : l0.length < 4611686018427387904)
    (hp : ∀ (W : World) (i : Nat) (b : Bool) (A1 : Option Addr) (c1 : Nat), Below w.heap.size w W → i < l0.length → (rd_T72 l0 (i : Int)).f1.length ≤ c1 → Kd.C k27 w A1 (rd_T72 l0 (i : Int)).f1.length (rd_T72 l0 (i : Int)).f1 → q (rd_T72 l0 (i : Int)) = some b → Calls Tryd.prog g (#[.agg #[.string (rd_T72 l0 (i : Int)).f0, .slice A1 (rd_T72 l0 (i : Int)).f1.length c1]] ++ lb) W fun e w' => e = .returned (.bool b) ∧ Below w.heap.size w w')
    (h : Go.Proofs.YtmipaoobkjppdaaDoor.Func.idxO q l0 0 = some r) : Calls Tryd.prog 81 #[.slice A0 l0.length c0, .func (.func g) #[] lb] w fun e w' => e = .returned (.bool (decide (r ≥ 0))) ∧ Below w.heap.size w w' := by
  have hcall := impl_Method_101.at g lb eg q A0 c0 l0 r w hr0 hc0 hbig hp h
  clear hr0 hc0 hbig hp h
  have e101 : ∀ args w, (callFunc 101 args).run Tryd.prog w = .ok (.enter 101 args) w := enters_of Tryd.func101 (by kernel_rfl) rfl
  go_enter Tryd.func81, Tryd.ntmps81
  go_wp2_with (go_at_fn 101; refine hcall.mono ?_; rintro e w' ⟨rfl, hb'⟩)
  go_ret
  exact ⟨rfl, hb'⟩
/-! ### impl_isScript_1: function 82 (by hand) -/
-- told at isScript

/-! ### impl_isScript: function 53 (by hand) -/
def impl_isScript.l0 (k : Nat) (l : List S72) : Nat → Option Bool
  | 0 => some true
  | d + 1 => (impl_isMethod.f k (rd_T72 l ((l.length : Int) - ((d + 1 : Nat) : Int))).f0 (rd_T72 l ((l.length : Int) - ((d + 1 : Nat) : Int))).f1).bind fun t => if t = true then ((Go.Proofs.YtmipaoobkjppdaaDoor.Func.idxO (fun y : S72 => some (y.f0.toList == (rd_T72 l ((l.length : Int) - ((d + 1 : Nat) : Int))).f0.toList)) (l.take ((l.length : Int) - ((d + 1 : Nat) : Int)).toNat) 0).bind fun r => if r ≥ 0 then some false else impl_isScript.l0 k l d) else some false
def impl_isScript.f (k : Nat) (a0_0 : ByteArray) (l0_1 : List S72) : Option (Bool) := (impl_isName.f k a0_0).bind fun t => if t = true then (if (l0_1.length : Int) > 4 then some false else impl_isScript.l0 k l0_1 l0_1.length) else some false
theorem impl_isScript.mono_l (l : List S72) (k : Nat) : ∀ d, LeO (impl_isScript.l0 k l d) (impl_isScript.l0 (k + 1) l d)
  | 0 => LeO.refl _
  | d + 1 => by
    unfold impl_isScript.l0
    exact LeO.bind (impl_isMethod.mono _ _ _) fun _ => LeO.ite (LeO.bind (LeO.refl _) fun _ => LeO.ite (LeO.refl _) (impl_isScript.mono_l l k d)) (LeO.refl _)
theorem impl_isScript.mono : ∀ a0 a1 k, LeO (impl_isScript.f k a0 a1) (impl_isScript.f (k + 1) a0 a1) := by
  intro a0 a1 k
  unfold impl_isScript.f
  exact LeO.bind (impl_isName.mono _ _) fun _ => LeO.ite (LeO.ite (LeO.refl _) (impl_isScript.mono_l _ _ _)) (LeO.refl _)
set_option maxHeartbeats 8000000 in
set_option maxRecDepth 100000 in
theorem impl_isScript_1.at (a0 : ByteArray) (A1 : Option Addr) (n1 c1 : Nat) (gb : Nat) (nm : ByteArray) (v1 : Value) (w : World) (hcb : w.heap[gb]? = some (.cells #[.string nm, v1] 72 (0, 0))) :
    Calls Tryd.prog 82 #[.agg #[.string a0, .slice A1 n1 c1], .pointer (some ⟨gb, 0, none⟩)] w fun e w' => e = .returned (.bool (a0.toList == nm.toList)) ∧ Below w.heap.size w w' := by
  have hu72 := Tryd.underlying72
  have CB := Aside0.mk hcb
  clear hcb
  have HB := Aside0.mk (Below.refl w.heap.size w)
  go_enter Tryd.func82, Tryd.ntmps82
  go_wp2_with (first | ((with_reducible refine gate_dst (N := 2) rfl ?_); (try (refine gate_guard (by rfl) ?_; dsimp only)); refine box_event ?hg (N := 2) ?hd (cs := #[.string a0, .slice A1 n1 c1]) (t := 72) ?hr ?_; (case hd => rfl); (case hg => rfl); (case hr => first | (go_simp; done) | (go_simp; rfl)); intro gb1 hg w1 hbox hb; have n0_ := Aside0.mk (below_step (by repeat (first | (with_reducible first | exact HB.out | apply below_alloc | apply pw_below_drewN | apply below_drew1) | exact HB.out)) hb); have n1_ := Aside0.mk (hbox); have n2_ := Aside0.mk ((by rw [hg]; exact (below_size (by repeat (first | (with_reducible first | exact HB.out | apply below_alloc | apply pw_below_drewN | apply below_drew1) | exact HB.out)))) : w.heap.size ≤ gb1); clear HB; have HB := n0_; have BK := n1_; have GE := n2_; clear n0_ n1_ n2_; have CB2 := Aside0.mk (blk_below CB.out hb); clear CB; have CB := CB2; clear CB2; clear hb hbox hg; have hcz_0 : w1.cell? ⟨gb1, 0, none⟩ = some (.string a0) := (blk_cell BK.out 0).trans rfl; have hfz_0 := blk_frozen BK.out 0; have hcz_1 : w1.cell? ⟨gb1, 1, none⟩ = some (.slice A1 n1 c1) := (blk_cell BK.out 1).trans rfl; have hfz_1 := blk_frozen BK.out 1; have hcy_0 : w1.cell? ⟨gb, 0, none⟩ = some (.string nm) := (blk_cell CB.out 0).trans rfl; have hfy_0 := blk_frozen CB.out 0))
  go_ret
  exact ⟨by first | rfl | (simp; done), by repeat (first | (with_reducible first | exact HB.out | apply below_alloc | apply pw_below_drewN | apply below_drew1 | refine below_set ?_ GE.out) | exact HB.out)⟩
set_option maxHeartbeats 8000000 in
set_option maxRecDepth 100000 in
theorem impl_isScript.calls (k : Nat) (a0_0 : ByteArray) (A0_1 : Option Addr) (c0_1 : Nat) (l0_1 : List (S72)) (r : Bool) (w : World) (hr0_1 : Kd.C k72 w A0_1 l0_1.length l0_1) (hc0_1 : l0_1.length ≤ c0_1) (h : impl_isScript.f k a0_0 l0_1 = some r) :
    Calls Tryd.prog 53 #[.agg #[.string a0_0, .slice A0_1 l0_1.length c0_1]] w fun e w' => e = .returned (.bool r) ∧ Below w.heap.size w w' := by
  have hu46 := Tryd.underlying46
  have hu72 := Tryd.underlying72
  have e82 : ∀ args w, (callFunc 82 args).run Tryd.prog w = .ok (.enter 82 args) w := enters_of Tryd.func82 (by kernel_rfl) rfl
  have HR0 := Aside0.mk hr0_1
  have HC0 := Aside0.mk hc0_1
  clear hr0_1 hc0_1
  have HB := Aside0.mk (Below.refl w.heap.size w)
  unfold impl_isScript.f at h
  obtain ⟨t, At, H⟩ := Option.bind_eq_some_iff.mp h
  clear h
  have A1 := Aside0.mk At
  clear At
  cases t with
  | false =>
    obtain rfl := Option.some.inj H
    clear H
    go_enter Tryd.func53, Tryd.ntmps53
    go_wp2_with (first | ((with_reducible refine gate_dst (N := 1) rfl ?_); (try (refine gate_guard (by rfl) ?_; dsimp only)); refine box_event ?hg (N := 1) ?hd (cs := #[.string a0_0, .slice A0_1 l0_1.length c0_1]) (t := 46) ?hr ?_; (case hd => rfl); (case hg => rfl); (case hr => first | (go_simp; done) | (go_simp; rfl)); intro gb1 hg w1 hbox hb; have n0_ := Aside0.mk (below_step (by repeat (first | (with_reducible first | exact HB.out | apply below_alloc | apply pw_below_drewN | apply below_drew1) | exact HB.out)) hb); have n1_ := Aside0.mk (hbox); have n2_ := Aside0.mk ((by rw [hg]; exact (below_size (by repeat (first | (with_reducible first | exact HB.out | apply below_alloc | apply pw_below_drewN | apply below_drew1) | exact HB.out)))) : w.heap.size ≤ gb1); clear HB; have HB := n0_; have BK := n1_; have GE := n2_; clear n0_ n1_ n2_; clear hb hbox hg; have hcz_0 : w1.cell? ⟨gb1, 0, none⟩ = some (.string a0_0) := (blk_cell BK.out 0).trans rfl; have hfz_0 := blk_frozen BK.out 0; have hcz_1 : w1.cell? ⟨gb1, 1, none⟩ = some (.slice A0_1 l0_1.length c0_1) := (blk_cell BK.out 1).trans rfl; have hfz_1 := blk_frozen BK.out 1) | (go_at_call 73; (with_reducible refine (impl_isName.calls k a0_0 false _ A1.out).mono ?_); rintro e w' ⟨rfl, ⟨nd, rfl⟩⟩))
    go_ret
    exact ⟨by first | rfl | (simp; done), by repeat (first | (with_reducible first | exact HB.out | apply below_alloc | apply pw_below_drewN | apply below_drew1 | refine below_set ?_ GE.out) | exact HB.out)⟩
  | true =>
    rw [if_pos rfl] at H
    by_cases c : (l0_1.length : Int) > 4
    · rw [if_pos c] at H
      have cb : decide (4 < (l0_1.length : Int)) = true := decide_eq_true c
      have cb1 : decide (4 < l0_1.length) = true := decide_eq_true (by omega)
      clear c
      obtain rfl := Option.some.inj H
      clear H
      go_enter Tryd.func53, Tryd.ntmps53
      go_wp2_with (first | ((with_reducible refine gate_dst (N := 1) rfl ?_); (try (refine gate_guard (by rfl) ?_; dsimp only)); refine box_event ?hg (N := 1) ?hd (cs := #[.string a0_0, .slice A0_1 l0_1.length c0_1]) (t := 46) ?hr ?_; (case hd => rfl); (case hg => rfl); (case hr => first | (go_simp; done) | (go_simp; rfl)); intro gb1 hg w1 hbox hb; have n0_ := Aside0.mk (below_step (by repeat (first | (with_reducible first | exact HB.out | apply below_alloc | apply pw_below_drewN | apply below_drew1) | exact HB.out)) hb); have n1_ := Aside0.mk (hbox); have n2_ := Aside0.mk ((by rw [hg]; exact (below_size (by repeat (first | (with_reducible first | exact HB.out | apply below_alloc | apply pw_below_drewN | apply below_drew1) | exact HB.out)))) : w.heap.size ≤ gb1); clear HB; have HB := n0_; have BK := n1_; have GE := n2_; clear n0_ n1_ n2_; clear hb hbox hg; have hcz_0 : w1.cell? ⟨gb1, 0, none⟩ = some (.string a0_0) := (blk_cell BK.out 0).trans rfl; have hfz_0 := blk_frozen BK.out 0; have hcz_1 : w1.cell? ⟨gb1, 1, none⟩ = some (.slice A0_1 l0_1.length c0_1) := (blk_cell BK.out 1).trans rfl; have hfz_1 := blk_frozen BK.out 1) | (go_at_call 73; (with_reducible refine (impl_isName.calls k a0_0 true _ A1.out).mono ?_); rintro e w' ⟨rfl, ⟨nd, rfl⟩⟩))
      go_ret
      exact ⟨by first | rfl | (simp; done), by repeat (first | (with_reducible first | exact HB.out | apply below_alloc | apply pw_below_drewN | apply below_drew1 | refine below_set ?_ GE.out) | exact HB.out)⟩
    · rw [if_neg c] at H
      have cb : decide (4 < (l0_1.length : Int)) = false := decide_eq_false c
      have cb1 : decide (4 < l0_1.length) = false := decide_eq_false (by omega)
      have LB := Aside0.mk c
      clear c
      have HA := Aside0.mk H
      clear H
      go_enter Tryd.func53, Tryd.ntmps53
      go_wp2_with (first | ((with_reducible refine gate_dst (N := 1) rfl ?_); (try (refine gate_guard (by rfl) ?_; dsimp only)); refine box_event ?hg (N := 1) ?hd (cs := #[.string a0_0, .slice A0_1 l0_1.length c0_1]) (t := 46) ?hr ?_; (case hd => rfl); (case hg => rfl); (case hr => first | (go_simp; done) | (go_simp; rfl)); intro gb1 hg w1 hbox hb; have n0_ := Aside0.mk (below_step (by repeat (first | (with_reducible first | exact HB.out | apply below_alloc | apply pw_below_drewN | apply below_drew1) | exact HB.out)) hb); have n1_ := Aside0.mk (hbox); have n2_ := Aside0.mk ((by rw [hg]; exact (below_size (by repeat (first | (with_reducible first | exact HB.out | apply below_alloc | apply pw_below_drewN | apply below_drew1) | exact HB.out)))) : w.heap.size ≤ gb1); clear HB; have HB := n0_; have BK := n1_; have GE := n2_; clear n0_ n1_ n2_; clear hb hbox hg; have hcz_0 : w1.cell? ⟨gb1, 0, none⟩ = some (.string a0_0) := (blk_cell BK.out 0).trans rfl; have hfz_0 := blk_frozen BK.out 0; have hcz_1 : w1.cell? ⟨gb1, 1, none⟩ = some (.slice A0_1 l0_1.length c0_1) := (blk_cell BK.out 1).trans rfl; have hfz_1 := blk_frozen BK.out 1) | (go_at_call 73; (with_reducible refine (impl_isName.calls k a0_0 true _ A1.out).mono ?_); rintro e w' ⟨rfl, ⟨nd, rfl⟩⟩))
      go_loopg [3, 4, 18] l0_1.length (fun kq _ _ v18 w' => ∃ d : Nat, v18 = .int .i64 ((l0_1.length : Int) - (d : Int)) ∧ Aside0 (d ≤ l0_1.length ∧ d ≤ kq) ∧ Aside0 (impl_isScript.l0 k l0_1 d = some r) ∧ Aside0 (w'.heap[gb1]? = some (.cells #[.string a0_0, .slice A0_1 l0_1.length c0_1] 46 (0, 0))) ∧ Aside0 (Below w.heap.size w w'))
      case atStart => exact ⟨l0_1.length, by (first | rfl | (simp; done)), ⟨Nat.le_refl _, Nat.le_refl _⟩, HA, ⟨by (with_reducible repeat (first | refine blk_drewN ?_ _ | refine blk_drew ?_ | refine blk_alloc ?_ _)); exact BK.out⟩, ⟨by repeat (first | (with_reducible first | exact HB.out | apply below_alloc | apply pw_below_drewN | apply below_drew1 | refine below_set ?_ GE.out) | exact HB.out)⟩⟩
      case round =>
        clear HA BK HB
        try clear cb
        try clear cb1
        obtain ⟨d, rfl, HK, HA, BK, HB⟩ := hrel
        cases d with
        | zero =>
          obtain rfl := Option.some.inj (show some true = some r from HA.out)
          have c3b : decide ((l0_1.length : Int) - ((0 : Nat) : Int) < (l0_1.length : Int)) = false := decide_eq_false (by omega)
          go_wp2
          go_ret
          exact ⟨by first | rfl | (simp; done), by repeat (first | (with_reducible first | exact HB.out | apply below_alloc | apply pw_below_drewN | apply below_drew1 | refine below_set ?_ GE.out) | exact HB.out)⟩
        | succ d =>
          obtain ⟨x, hx⟩ : ∃ x : Int, x = (l0_1.length : Int) - ((d + 1 : Nat) : Int) := ⟨_, rfl⟩
          have H := HA.out
          clear HA
          unfold impl_isScript.l0 at H
          rw [← hx] at H ⊢
          have x0 : 0 ≤ x := by have := HK.out; omega
          have x1 : x < (l0_1.length : Int) := by omega
          have x2 : x ≤ (l0_1.length : Int) := by omega
          have HX := Aside0.mk hx
          clear hx
          have x1b : decide (x < (l0_1.length : Int)) = true := decide_eq_true x1
          obtain ⟨t2, At2, H⟩ := Option.bind_eq_some_iff.mp H
          have A2 := Aside0.mk At2
          clear At2
          obtain ⟨ad, A1_, c1_, e0, hx0, hx1, hl1, hi1⟩ := at_T72 HR0.out x x0 x1
          cases e0
          replace hx0 := (HB.out.cell (World.block_lt_of_cell? w _ hx0)).trans hx0
          replace hx1 := (HB.out.cell (World.block_lt_of_cell? w _ hx1)).trans hx1
          have HR1 := Aside0.mk hi1
          have HC1 := Aside0.mk hl1
          clear hi1 hl1
          have hcz_0 : wr.cell? ⟨gb1, 0, none⟩ = some (.string a0_0) := (blk_cell BK.out 0).trans rfl
          have hcz_1 : wr.cell? ⟨gb1, 1, none⟩ = some (.slice (some ad) l0_1.length c0_1) := (blk_cell BK.out 1).trans rfl
          have hfz_0 := blk_frozen BK.out 0
          have hfz_1 := blk_frozen BK.out 1
          obtain ⟨i0_, hi0_, _, hsz_, _⟩ := info_parts info72
          have hcut := cut_to (P := Tryd.prog) 44 72 .i64 Tryd.underlying44 hi0_ (some ad) l0_1.length c0_1 x x0 x2 HC0.out
          have hry := Kd.C_take (m := x.toNat) HR0.out (by omega)
          have hyl : (l0_1.take x.toNat).length = x.toNat := by rw [List.length_take]; omega
          obtain ⟨y, hy⟩ : ∃ y_ : List S72, y_ = l0_1.take x.toNat := ⟨_, rfl⟩
          rw [← hy] at hry hyl H
          rw [← hyl] at hcut
          have HRY := Aside0.mk hry
          have HCY := Aside0.mk (show y.length ≤ c0_1 from by have := HC0.out; omega)
          have HLY := Aside0.mk hyl
          have x0b := eq_true x0
          have x1c := eq_true x1
          have x2b := eq_true x2
          have X2 := Aside0.mk (And.intro x0 x1)
          clear hi0_ hsz_ hry hyl hy x0 x1 x2
          cases t2 with
          | false =>
            obtain rfl := Option.some.inj (show some false = some r from H)
            clear H
            go_wp2_with (first | ((with_reducible refine gate_dst (N := 4) rfl ?_); refine box_event ?hg (N := 4) ?hd (cs := #[.string (⟨#[]⟩ : ByteArray), .slice none 0 0]) (t := 72) ?hr ?_; (case hd => rfl); (case hg => rfl); (case hr => first | (go_simp; done) | (go_simp; rfl)); intro gb2 hg w12 hbox hb; have n0_ := Aside0.mk (below_step HB.out hb); have n1_ := Aside0.mk (blk_below BK.out hb); have HBR := Aside0.mk hb; have GER := Aside0.mk (show wr.heap.size ≤ gb2 from by rw [hg]; exact Nat.le_refl _); have GE2 := Aside0.mk (show w.heap.size ≤ gb2 from by rw [hg]; exact below_size HB.out); have CB := Aside0.mk hbox; have BK0 := BK; clear HB BK; have HB := n0_; have BK := n1_; clear n0_ n1_ hb hbox hg; have hcv_0 : w12.cell? ⟨gb2, 0, none⟩ = some (.string (⟨#[]⟩ : ByteArray)) := (blk_cell CB.out 0).trans rfl; have hcv_1 : w12.cell? ⟨gb2, 1, none⟩ = some (.slice none 0 0) := (blk_cell CB.out 1).trans rfl; have hfv_0 := blk_frozen CB.out 0; have hfv_1 := blk_frozen CB.out 1) | ((with_reducible refine gate_store (t := 72) (p := 4) rfl ?_); refine store_event (t := 72) (p := 4) (v := ?vo) (w1 := ((w12.setCell ⟨gb2, 0, none⟩ (.string (rd_T72 l0_1 x).f0)).setCell ⟨gb2, 1, none⟩ (.slice A1_ (rd_T72 l0_1 x).f1.length c1_))) ?hg ?ho ?hn ?hr ?_; (case ho => rfl); (case hg => rfl); (case hn => rfl); (case hr => first | (go_simp; done) | (go_simp; rfl)); intro w13 hw; have n0_ := Aside0.mk (show Below w.heap.size w w13 from by rw [hw]; exact below_set (below_set HB.out GE2.out) GE2.out); have n1_ := Aside0.mk (show w13.heap[gb2]? = some (.cells #[.string (rd_T72 l0_1 x).f0, .slice A1_ (rd_T72 l0_1 x).f1.length c1_] 72 (0, 0)) from by rw [hw]; refine blk_put (cs := #[.string (rd_T72 l0_1 x).f0, .slice none 0 0]) ?_ 1 _ rfl; refine blk_put (cs := #[.string (⟨#[]⟩ : ByteArray), .slice none 0 0]) ?_ 0 _ rfl; exact CB.out); have n2_ := Aside0.mk (show Below wr.heap.size wr w13 from by rw [hw]; exact below_set (below_set HBR.out GER.out) GER.out); have n3_ := Aside0.mk (blk_below BK0.out n2_.out); clear HB BK CB; have HB := n0_; have CB := n1_; have BK := n3_; clear n0_ n1_ n2_ n3_ hw; have hczgb1_0 : w13.cell? ⟨gb1, 0, none⟩ = some (.string a0_0) := (blk_cell BK.out 0).trans rfl; have hfzgb1_0 := blk_frozen BK.out 0; have hczgb1_1 : w13.cell? ⟨gb1, 1, none⟩ = some (.slice (some ad) l0_1.length c0_1) := (blk_cell BK.out 1).trans rfl; have hfzgb1_1 := blk_frozen BK.out 1; have hczgb2_0 : w13.cell? ⟨gb2, 0, none⟩ = some (.string (rd_T72 l0_1 x).f0) := (blk_cell CB.out 0).trans rfl; have hfzgb2_0 := blk_frozen CB.out 0; have hczgb2_1 : w13.cell? ⟨gb2, 1, none⟩ = some (.slice A1_ (rd_T72 l0_1 x).f1.length c1_) := (blk_cell CB.out 1).trans rfl; have hfzgb2_1 := blk_frozen CB.out 1) | (go_at_call 80; (with_reducible refine (impl_isMethod.calls k (rd_T72 l0_1 x).f0 A1_ c1_ (rd_T72 l0_1 x).f1 false _ ?s1 ?s2 A2.out).mono ?_); (case s1 => exact Kd.C_below HR1.out HB.out); (case s2 => exact HC1.out); rintro e w14 ⟨rfl, hb⟩; have n0_ := Aside0.mk (below_step HB.out hb); have n1_ := Aside0.mk (blk_below BK.out hb); have n2_ := Aside0.mk (blk_below CB.out hb); clear HB BK CB; have HB := n0_; have BK := n1_; have CB := n2_; clear n0_ n1_ n2_ hb; have hczgb1_0 : w14.cell? ⟨gb1, 0, none⟩ = some (.string a0_0) := (blk_cell BK.out 0).trans rfl; have hfzgb1_0 := blk_frozen BK.out 0; have hczgb1_1 : w14.cell? ⟨gb1, 1, none⟩ = some (.slice (some ad) l0_1.length c0_1) := (blk_cell BK.out 1).trans rfl; have hfzgb1_1 := blk_frozen BK.out 1; have hczgb2_0 : w14.cell? ⟨gb2, 0, none⟩ = some (.string (rd_T72 l0_1 x).f0) := (blk_cell CB.out 0).trans rfl; have hfzgb2_0 := blk_frozen CB.out 0; have hczgb2_1 : w14.cell? ⟨gb2, 1, none⟩ = some (.slice A1_ (rd_T72 l0_1 x).f1.length c1_) := (blk_cell CB.out 1).trans rfl; have hfzgb2_1 := blk_frozen CB.out 1))
            go_ret
            exact ⟨by first | rfl | (simp; done), by repeat (first | (with_reducible first | exact HB.out | apply below_alloc | apply pw_below_drewN | apply below_drew1 | refine below_set ?_ GE.out) | exact HB.out)⟩
          | true =>
            rw [if_pos rfl] at H
            obtain ⟨r2, At3, H⟩ := Option.bind_eq_some_iff.mp H
            have A3 := Aside0.mk At3
            clear At3
            by_cases cr : r2 ≥ 0
            · rw [if_pos cr] at H
              obtain rfl := Option.some.inj H
              clear H
              have crb : decide (r2 ≥ 0) = true := decide_eq_true cr
              have CR := Aside0.mk crb
              clear cr crb
              go_wp2_with (first | ((with_reducible refine gate_dst (N := 4) rfl ?_); refine box_event ?hg (N := 4) ?hd (cs := #[.string (⟨#[]⟩ : ByteArray), .slice none 0 0]) (t := 72) ?hr ?_; (case hd => rfl); (case hg => rfl); (case hr => first | (go_simp; done) | (go_simp; rfl)); intro gb2 hg w12 hbox hb; have n0_ := Aside0.mk (below_step HB.out hb); have n1_ := Aside0.mk (blk_below BK.out hb); have HBR := Aside0.mk hb; have GER := Aside0.mk (show wr.heap.size ≤ gb2 from by rw [hg]; exact Nat.le_refl _); have GE2 := Aside0.mk (show w.heap.size ≤ gb2 from by rw [hg]; exact below_size HB.out); have CB := Aside0.mk hbox; have BK0 := BK; clear HB BK; have HB := n0_; have BK := n1_; clear n0_ n1_ hb hbox hg; have hcv_0 : w12.cell? ⟨gb2, 0, none⟩ = some (.string (⟨#[]⟩ : ByteArray)) := (blk_cell CB.out 0).trans rfl; have hcv_1 : w12.cell? ⟨gb2, 1, none⟩ = some (.slice none 0 0) := (blk_cell CB.out 1).trans rfl; have hfv_0 := blk_frozen CB.out 0; have hfv_1 := blk_frozen CB.out 1) | ((with_reducible refine gate_store (t := 72) (p := 4) rfl ?_); refine store_event (t := 72) (p := 4) (v := ?vo) (w1 := ((w12.setCell ⟨gb2, 0, none⟩ (.string (rd_T72 l0_1 x).f0)).setCell ⟨gb2, 1, none⟩ (.slice A1_ (rd_T72 l0_1 x).f1.length c1_))) ?hg ?ho ?hn ?hr ?_; (case ho => rfl); (case hg => rfl); (case hn => rfl); (case hr => first | (go_simp; done) | (go_simp; rfl)); intro w13 hw; have n0_ := Aside0.mk (show Below w.heap.size w w13 from by rw [hw]; exact below_set (below_set HB.out GE2.out) GE2.out); have n1_ := Aside0.mk (show w13.heap[gb2]? = some (.cells #[.string (rd_T72 l0_1 x).f0, .slice A1_ (rd_T72 l0_1 x).f1.length c1_] 72 (0, 0)) from by rw [hw]; refine blk_put (cs := #[.string (rd_T72 l0_1 x).f0, .slice none 0 0]) ?_ 1 _ rfl; refine blk_put (cs := #[.string (⟨#[]⟩ : ByteArray), .slice none 0 0]) ?_ 0 _ rfl; exact CB.out); have n2_ := Aside0.mk (show Below wr.heap.size wr w13 from by rw [hw]; exact below_set (below_set HBR.out GER.out) GER.out); have n3_ := Aside0.mk (blk_below BK0.out n2_.out); clear HB BK CB; have HB := n0_; have CB := n1_; have BK := n3_; clear n0_ n1_ n2_ n3_ hw; have hczgb1_0 : w13.cell? ⟨gb1, 0, none⟩ = some (.string a0_0) := (blk_cell BK.out 0).trans rfl; have hfzgb1_0 := blk_frozen BK.out 0; have hczgb1_1 : w13.cell? ⟨gb1, 1, none⟩ = some (.slice (some ad) l0_1.length c0_1) := (blk_cell BK.out 1).trans rfl; have hfzgb1_1 := blk_frozen BK.out 1; have hczgb2_0 : w13.cell? ⟨gb2, 0, none⟩ = some (.string (rd_T72 l0_1 x).f0) := (blk_cell CB.out 0).trans rfl; have hfzgb2_0 := blk_frozen CB.out 0; have hczgb2_1 : w13.cell? ⟨gb2, 1, none⟩ = some (.slice A1_ (rd_T72 l0_1 x).f1.length c1_) := (blk_cell CB.out 1).trans rfl; have hfzgb2_1 := blk_frozen CB.out 1) | (go_at_call 80; (with_reducible refine (impl_isMethod.calls k (rd_T72 l0_1 x).f0 A1_ c1_ (rd_T72 l0_1 x).f1 true _ ?s1 ?s2 A2.out).mono ?_); (case s1 => exact Kd.C_below HR1.out HB.out); (case s2 => exact HC1.out); rintro e w14 ⟨rfl, hb⟩; have n0_ := Aside0.mk (below_step HB.out hb); have n1_ := Aside0.mk (blk_below BK.out hb); have n2_ := Aside0.mk (blk_below CB.out hb); clear HB BK CB; have HB := n0_; have BK := n1_; have CB := n2_; clear n0_ n1_ n2_ hb; have hczgb1_0 : w14.cell? ⟨gb1, 0, none⟩ = some (.string a0_0) := (blk_cell BK.out 0).trans rfl; have hfzgb1_0 := blk_frozen BK.out 0; have hczgb1_1 : w14.cell? ⟨gb1, 1, none⟩ = some (.slice (some ad) l0_1.length c0_1) := (blk_cell BK.out 1).trans rfl; have hfzgb1_1 := blk_frozen BK.out 1; have hczgb2_0 : w14.cell? ⟨gb2, 0, none⟩ = some (.string (rd_T72 l0_1 x).f0) := (blk_cell CB.out 0).trans rfl; have hfzgb2_0 := blk_frozen CB.out 0; have hczgb2_1 : w14.cell? ⟨gb2, 1, none⟩ = some (.slice A1_ (rd_T72 l0_1 x).f1.length c1_) := (blk_cell CB.out 1).trans rfl; have hfzgb2_1 := blk_frozen CB.out 1) | (go_at_call 81; refine (impl_Method_81.at 82 #[.pointer (some ⟨gb2, 0, none⟩)] e82 _ (some ad) c0_1 y r2 _ ?hr HCY.out ?hl ?hp A3.out).mono ?_; (case hr => exact Kd.C_below HRY.out HB.out); (case hl => have h1 := LB.out; have h2 := X2.out; have h3 := HLY.out; omega); (case hp => intro W i b A1' c1' hb hi hl hC hq; obtain rfl := Option.some.inj hq; refine (show Calls Tryd.prog 82 #[_, _] W _ from (impl_isScript_1.at _ A1' _ c1' gb2 _ _ W (blk_below CB.out hb)).mono ?_); rintro e w' ⟨rfl, hb'⟩; exact ⟨rfl, below_step hb hb'⟩); rintro e w15 ⟨he, hb⟩; rw [CR.out] at he; subst he; have n0_ := Aside0.mk (below_step HB.out hb); have n1_ := Aside0.mk (blk_below BK.out hb); clear HB BK; have HB := n0_; have BK := n1_; clear n0_ n1_ hb))
              go_ret
              exact ⟨by first | rfl | (simp; done), by repeat (first | (with_reducible first | exact HB.out | apply below_alloc | apply pw_below_drewN | apply below_drew1 | refine below_set ?_ GE.out) | exact HB.out)⟩
            · rw [if_neg cr] at H
              have HN := Aside0.mk H
              clear H
              have crb : decide (r2 ≥ 0) = false := decide_eq_false cr
              have CR := Aside0.mk crb
              clear cr crb
              go_wp2_with (first | ((with_reducible refine gate_dst (N := 4) rfl ?_); refine box_event ?hg (N := 4) ?hd (cs := #[.string (⟨#[]⟩ : ByteArray), .slice none 0 0]) (t := 72) ?hr ?_; (case hd => rfl); (case hg => rfl); (case hr => first | (go_simp; done) | (go_simp; rfl)); intro gb2 hg w12 hbox hb; have n0_ := Aside0.mk (below_step HB.out hb); have n1_ := Aside0.mk (blk_below BK.out hb); have HBR := Aside0.mk hb; have GER := Aside0.mk (show wr.heap.size ≤ gb2 from by rw [hg]; exact Nat.le_refl _); have GE2 := Aside0.mk (show w.heap.size ≤ gb2 from by rw [hg]; exact below_size HB.out); have CB := Aside0.mk hbox; have BK0 := BK; clear HB BK; have HB := n0_; have BK := n1_; clear n0_ n1_ hb hbox hg; have hcv_0 : w12.cell? ⟨gb2, 0, none⟩ = some (.string (⟨#[]⟩ : ByteArray)) := (blk_cell CB.out 0).trans rfl; have hcv_1 : w12.cell? ⟨gb2, 1, none⟩ = some (.slice none 0 0) := (blk_cell CB.out 1).trans rfl; have hfv_0 := blk_frozen CB.out 0; have hfv_1 := blk_frozen CB.out 1) | ((with_reducible refine gate_store (t := 72) (p := 4) rfl ?_); refine store_event (t := 72) (p := 4) (v := ?vo) (w1 := ((w12.setCell ⟨gb2, 0, none⟩ (.string (rd_T72 l0_1 x).f0)).setCell ⟨gb2, 1, none⟩ (.slice A1_ (rd_T72 l0_1 x).f1.length c1_))) ?hg ?ho ?hn ?hr ?_; (case ho => rfl); (case hg => rfl); (case hn => rfl); (case hr => first | (go_simp; done) | (go_simp; rfl)); intro w13 hw; have n0_ := Aside0.mk (show Below w.heap.size w w13 from by rw [hw]; exact below_set (below_set HB.out GE2.out) GE2.out); have n1_ := Aside0.mk (show w13.heap[gb2]? = some (.cells #[.string (rd_T72 l0_1 x).f0, .slice A1_ (rd_T72 l0_1 x).f1.length c1_] 72 (0, 0)) from by rw [hw]; refine blk_put (cs := #[.string (rd_T72 l0_1 x).f0, .slice none 0 0]) ?_ 1 _ rfl; refine blk_put (cs := #[.string (⟨#[]⟩ : ByteArray), .slice none 0 0]) ?_ 0 _ rfl; exact CB.out); have n2_ := Aside0.mk (show Below wr.heap.size wr w13 from by rw [hw]; exact below_set (below_set HBR.out GER.out) GER.out); have n3_ := Aside0.mk (blk_below BK0.out n2_.out); clear HB BK CB; have HB := n0_; have CB := n1_; have BK := n3_; clear n0_ n1_ n2_ n3_ hw; have hczgb1_0 : w13.cell? ⟨gb1, 0, none⟩ = some (.string a0_0) := (blk_cell BK.out 0).trans rfl; have hfzgb1_0 := blk_frozen BK.out 0; have hczgb1_1 : w13.cell? ⟨gb1, 1, none⟩ = some (.slice (some ad) l0_1.length c0_1) := (blk_cell BK.out 1).trans rfl; have hfzgb1_1 := blk_frozen BK.out 1; have hczgb2_0 : w13.cell? ⟨gb2, 0, none⟩ = some (.string (rd_T72 l0_1 x).f0) := (blk_cell CB.out 0).trans rfl; have hfzgb2_0 := blk_frozen CB.out 0; have hczgb2_1 : w13.cell? ⟨gb2, 1, none⟩ = some (.slice A1_ (rd_T72 l0_1 x).f1.length c1_) := (blk_cell CB.out 1).trans rfl; have hfzgb2_1 := blk_frozen CB.out 1) | (go_at_call 80; (with_reducible refine (impl_isMethod.calls k (rd_T72 l0_1 x).f0 A1_ c1_ (rd_T72 l0_1 x).f1 true _ ?s1 ?s2 A2.out).mono ?_); (case s1 => exact Kd.C_below HR1.out HB.out); (case s2 => exact HC1.out); rintro e w14 ⟨rfl, hb⟩; have n0_ := Aside0.mk (below_step HB.out hb); have n1_ := Aside0.mk (blk_below BK.out hb); have n2_ := Aside0.mk (blk_below CB.out hb); clear HB BK CB; have HB := n0_; have BK := n1_; have CB := n2_; clear n0_ n1_ n2_ hb; have hczgb1_0 : w14.cell? ⟨gb1, 0, none⟩ = some (.string a0_0) := (blk_cell BK.out 0).trans rfl; have hfzgb1_0 := blk_frozen BK.out 0; have hczgb1_1 : w14.cell? ⟨gb1, 1, none⟩ = some (.slice (some ad) l0_1.length c0_1) := (blk_cell BK.out 1).trans rfl; have hfzgb1_1 := blk_frozen BK.out 1; have hczgb2_0 : w14.cell? ⟨gb2, 0, none⟩ = some (.string (rd_T72 l0_1 x).f0) := (blk_cell CB.out 0).trans rfl; have hfzgb2_0 := blk_frozen CB.out 0; have hczgb2_1 : w14.cell? ⟨gb2, 1, none⟩ = some (.slice A1_ (rd_T72 l0_1 x).f1.length c1_) := (blk_cell CB.out 1).trans rfl; have hfzgb2_1 := blk_frozen CB.out 1) | (go_at_call 81; refine (impl_Method_81.at 82 #[.pointer (some ⟨gb2, 0, none⟩)] e82 _ (some ad) c0_1 y r2 _ ?hr HCY.out ?hl ?hp A3.out).mono ?_; (case hr => exact Kd.C_below HRY.out HB.out); (case hl => have h1 := LB.out; have h2 := X2.out; have h3 := HLY.out; omega); (case hp => intro W i b A1' c1' hb hi hl hC hq; obtain rfl := Option.some.inj hq; refine (show Calls Tryd.prog 82 #[_, _] W _ from (impl_isScript_1.at _ A1' _ c1' gb2 _ _ W (blk_below CB.out hb)).mono ?_); rintro e w' ⟨rfl, hb'⟩; exact ⟨rfl, below_step hb hb'⟩); rintro e w15 ⟨he, hb⟩; rw [CR.out] at he; subst he; have n0_ := Aside0.mk (below_step HB.out hb); have n1_ := Aside0.mk (blk_below BK.out hb); clear HB BK; have HB := n0_; have BK := n1_; clear n0_ n1_ hb))
              have ew : wrap64 (x + 1) = (l0_1.length : Int) - (d : Int) := by have h1 := HX.out; have h2 := LB.out; have h3 := X2.out; unfold wrap64; omega
              go_roundg (gk - 1)
              case measure => have := HK.out; omega
              case rel => exact ⟨d, by rw [ew], ⟨by have := HK.out; omega, by have := HK.out; omega⟩, HN, BK, HB⟩
/-! ### impl_Script: function 103 (by hand) -/
set_option maxHeartbeats 8000000 in
set_option maxRecDepth 100000 in
theorem impl_Script.at (g : Nat) (lb : Array Value) (eg : ∀ args w, (callFunc g args).run Tryd.prog w = .ok (.enter g args) w) (q : S46 → Option Bool) (A0 : Option Addr) (c0 : Nat) (l0 : List S46) (r : Int) (w : World) (hr0 : Kd.C k46 w A0 l0.length l0) (hc0 : l0.length ≤ c0) (hbig : l0.length < 4611686018427387904)
    (hp : ∀ (W : World) (i : Nat) (b : Bool) (A1 : Option Addr) (c1 : Nat), Below w.heap.size w W → i < l0.length → (rd_T46 l0 (i : Int)).f1.length ≤ c1 → Kd.C k72 w A1 (rd_T46 l0 (i : Int)).f1.length (rd_T46 l0 (i : Int)).f1 → q (rd_T46 l0 (i : Int)) = some b → Calls Tryd.prog g (#[.agg #[.string (rd_T46 l0 (i : Int)).f0, .slice A1 (rd_T46 l0 (i : Int)).f1.length c1]] ++ lb) W fun e w' => e = .returned (.bool b) ∧ Below w.heap.size w w')
    (h : Go.Proofs.YtmipaoobkjppdaaDoor.Func.idxO q l0 0 = some r) : Calls Tryd.prog 103 #[.slice A0 l0.length c0, .func (.func g) #[] lb] w fun e w' => e = .returned (.int .i64 r) ∧ Below w.heap.size w w' := by
  have hu46 := Tryd.underlying46
  have HR0 := Aside0.mk hr0
  have HC0 := Aside0.mk hc0
  have HP := Aside0.mk hp
  have LB := Aside0.mk hbig
  clear hbig
  have HA0 := Aside0.mk h
  clear hr0 hc0 hp h
  go_enter Tryd.func103, Tryd.ntmps103
  go_wp2
  go_loopg [5, 8] l0.length (fun kq _ v8 w' => ∃ kk : Nat, v8 = .int .i64 (kk : Int) ∧ Aside0 (kk ≤ l0.length ∧ l0.length - kk ≤ kq) ∧ Aside0 (Go.Proofs.YtmipaoobkjppdaaDoor.Func.idxO q (l0.drop kk) (kk : Int) = some r) ∧ Aside0 (Below w.heap.size w w'))
  case atStart => exact ⟨0, rfl, ⟨by omega, by omega⟩, ⟨HA0.out⟩, ⟨Below.refl _ _⟩⟩
  case round =>
    clear HA0
    obtain ⟨kk, rfl, HK, HA, HB⟩ := hrel
    by_cases hkl : kk < l0.length
    · have cq1 : (kk : Int) < (l0.length : Int) := by omega
      have c0_ : (0 : Int) ≤ (kk : Int) := by omega
      have c1b : decide ((kk : Int) < (l0.length : Int)) = true := decide_eq_true cq1
      have hkn : 0 < gk := by have := HK.out; omega
      obtain ⟨ad, A1, c1, e0, hx0, hx1, hl1, hC1⟩ := at_T46 HR0.out (kk : Int) c0_ cq1
      cases e0
      replace hx0 := (HB.out.cell (World.block_lt_of_cell? w _ hx0)).trans hx0
      simp only [Int.toNat_natCast] at hx0
      replace hx1 := (HB.out.cell (World.block_lt_of_cell? w _ hx1)).trans hx1
      simp only [Int.toNat_natCast] at hx1
      have HA1 := HA.out
      rw [Go.Proofs.YtmipaoobkjppdaaDoor.Func.idxO_step q l0 z46 kk hkl] at HA1
      obtain ⟨b, hb0, HA2⟩ := Option.bind_eq_some_iff.mp HA1
      clear HA1 HA
      have hcall := HP.out wr kk b A1 c1 HB.out hkl hl1 hC1 hb0
      have cq0b := eq_true c0_
      have c1c := eq_true cq1
      have HL := Aside0.mk hkl
      clear hkl cq1 c0_ hb0 hl1 hC1
      cases b with
      | true =>
        have hr : (kk : Int) = r := Option.some.inj HA2
        subst hr
        clear HA2
        go_wp2_with (go_at_fn g; refine hcall.mono ?_; rintro e w' ⟨rfl, hb'⟩)
        go_ret
        exact ⟨rfl, hb'⟩
      | false =>
        have HA := Aside0.mk HA2
        clear HA2
        go_wp2_with (go_at_fn g; refine hcall.mono ?_; rintro e w' ⟨rfl, hb'⟩)
        have ew : wrap64 ((kk : Int) + 1) = ((kk + 1 : Nat) : Int) := by have h1 := HL.out; have h2 := LB.out; unfold wrap64; omega
        go_roundg (gk - 1)
        case measure => omega
        case rel => exact ⟨kk + 1, by rw [ew], ⟨by have := HK.out; have := HL.out; omega⟩, ⟨HA.out⟩, ⟨hb'⟩⟩
    · have hk : kk = l0.length := by have := HK.out.1; omega
      subst hk
      have c1b : decide ((l0.length : Int) < (l0.length : Int)) = false := decide_eq_false (by omega)
      have hr : (-1 : Int) = r := by
        have h1 := HA.out
        rw [List.drop_length] at h1
        exact Option.some.inj h1
      subst hr
      go_wp2
      go_ret
      exact ⟨rfl, HB.out⟩
/-! ### impl_FindScript_1: function 104 (by hand) -/
set_option maxHeartbeats 8000000 in
set_option maxRecDepth 100000 in
theorem impl_FindScript_1.at (a0 : ByteArray) (A1 : Option Addr) (n1 c1 : Nat) (gb : Nat) (nm : ByteArray) (w : World) (hcb : w.heap[gb]? = some (.cells #[.string nm] 9 (0, 0))) :
    Calls Tryd.prog 104 #[.agg #[.string a0, .slice A1 n1 c1], .pointer (some ⟨gb, 0, none⟩)] w fun e w' => e = .returned (.bool (a0.toList == nm.toList)) ∧ Below w.heap.size w w' := by
  have hu46 := Tryd.underlying46
  have CB := Aside0.mk hcb
  clear hcb
  have HB := Aside0.mk (Below.refl w.heap.size w)
  go_enter Tryd.func104, Tryd.ntmps104
  go_wp2_with (first | ((with_reducible refine gate_dst (N := 2) rfl ?_); (try (refine gate_guard (by rfl) ?_; dsimp only)); refine box_event ?hg (N := 2) ?hd (cs := #[.string a0, .slice A1 n1 c1]) (t := 46) ?hr ?_; (case hd => rfl); (case hg => rfl); (case hr => first | (go_simp; done) | (go_simp; rfl)); intro gb1 hg w1 hbox hb; have n0_ := Aside0.mk (below_step (by repeat (first | (with_reducible first | exact HB.out | apply below_alloc | apply pw_below_drewN | apply below_drew1) | exact HB.out)) hb); have n1_ := Aside0.mk (hbox); have n2_ := Aside0.mk ((by rw [hg]; exact (below_size (by repeat (first | (with_reducible first | exact HB.out | apply below_alloc | apply pw_below_drewN | apply below_drew1) | exact HB.out)))) : w.heap.size ≤ gb1); clear HB; have HB := n0_; have BK := n1_; have GE := n2_; clear n0_ n1_ n2_; have CB2 := Aside0.mk (blk_below CB.out hb); clear CB; have CB := CB2; clear CB2; clear hb hbox hg; have hcz_0 : w1.cell? ⟨gb1, 0, none⟩ = some (.string a0) := (blk_cell BK.out 0).trans rfl; have hfz_0 := blk_frozen BK.out 0; have hcz_1 : w1.cell? ⟨gb1, 1, none⟩ = some (.slice A1 n1 c1) := (blk_cell BK.out 1).trans rfl; have hfz_1 := blk_frozen BK.out 1; have hcy_0 : w1.cell? ⟨gb, 0, none⟩ = some (.string nm) := (blk_cell CB.out 0).trans rfl; have hfy_0 := blk_frozen CB.out 0))
  go_ret
  exact ⟨by first | rfl | (simp; done), by repeat (first | (with_reducible first | exact HB.out | apply below_alloc | apply pw_below_drewN | apply below_drew1 | refine below_set ?_ GE.out) | exact HB.out)⟩
/-! ### impl_FindScript: function 85 (by hand) -/
def impl_FindScript.f (l0 : List S46) (a1 : ByteArray) : Option (Int) := if l0.length < 4611686018427387904 then Go.Proofs.YtmipaoobkjppdaaDoor.Func.idxO (fun x : S46 => some (x.f0.toList == a1.toList)) l0 0 else none
set_option maxHeartbeats 8000000 in
set_option maxRecDepth 100000 in
theorem impl_FindScript.calls (A0 : Option Addr) (c0 : Nat) (l0 : List (S46)) (a1 : ByteArray) (r : Int) (w : World) (hr0 : Kd.C k46 w A0 l0.length l0) (hc0 : l0.length ≤ c0) (h : impl_FindScript.f l0 a1 = some r) :
    Calls Tryd.prog 85 #[.slice A0 l0.length c0, .string a1] w fun e w' => e = .returned (.int .i64 r) ∧ Below w.heap.size w w' := by
  have e104 : ∀ args w, (callFunc 104 args).run Tryd.prog w = .ok (.enter 104 args) w := enters_of Tryd.func104 (by kernel_rfl) rfl
  have HR0 := Aside0.mk hr0
  have HC0 := Aside0.mk hc0
  clear hr0 hc0
  have HB := Aside0.mk (Below.refl w.heap.size w)
  unfold impl_FindScript.f at h
  by_cases c : l0.length < 4611686018427387904
  · rw [if_pos c] at h
    have A1 := Aside0.mk h
    have LB := Aside0.mk c
    clear h c
    go_enter Tryd.func85, Tryd.ntmps85
    go_wp2_with (first | ((with_reducible refine gate_dst (N := 3) rfl ?_); (try (refine gate_guard (by rfl) ?_; dsimp only)); refine box_event ?hg (N := 3) ?hd (cs := #[.string a1]) (t := 9) ?hr ?_; (case hd => rfl); (case hg => rfl); (case hr => first | (go_simp; done) | (go_simp; rfl)); intro gb1 hg w1 hbox hb; have n0_ := Aside0.mk (below_step (by repeat (first | (with_reducible first | exact HB.out | apply below_alloc | apply pw_below_drewN | apply below_drew1) | exact HB.out)) hb); have n1_ := Aside0.mk (hbox); have n2_ := Aside0.mk ((by rw [hg]; exact (below_size (by repeat (first | (with_reducible first | exact HB.out | apply below_alloc | apply pw_below_drewN | apply below_drew1) | exact HB.out)))) : w.heap.size ≤ gb1); clear HB; have HB := n0_; have BK := n1_; have GE := n2_; clear n0_ n1_ n2_; clear hb hbox hg; have hcz_0 : w1.cell? ⟨gb1, 0, none⟩ = some (.string a1) := (blk_cell BK.out 0).trans rfl; have hfz_0 := blk_frozen BK.out 0) | (go_at_call 103; refine (impl_Script.at 104 #[.pointer (some ⟨gb1, 0, none⟩)] e104 (fun x : S46 => some (x.f0.toList == a1.toList)) A0 c0 l0 r _ ?hr HC0.out LB.out ?hp A1.out).mono ?_; (case hr => exact Kd.C_below HR0.out (by repeat (first | (with_reducible first | exact HB.out | apply below_alloc | apply pw_below_drewN | apply below_drew1 | refine below_set ?_ GE.out) | exact HB.out))); (case hp => intro W i b A1_ c1_ hb hi hl hC hq; obtain rfl := Option.some.inj hq; refine (show Calls Tryd.prog 104 #[_, _] W _ from (impl_FindScript_1.at _ A1_ _ c1_ gb1 a1 W (blk_below BK.out hb)).mono ?_); rintro e w' ⟨rfl, hb'⟩; exact ⟨rfl, below_step hb hb'⟩); rintro e w' ⟨rfl, hb'⟩; have n0_ := Aside0.mk (below_step (by repeat (first | (with_reducible first | exact HB.out | apply below_alloc | apply pw_below_drewN | apply below_drew1 | refine below_set ?_ GE.out) | exact HB.out)) hb'); clear HB; have HB := n0_; clear n0_ hb'))
    go_ret
    exact ⟨by first | rfl | (simp; done), by repeat (first | (with_reducible first | exact HB.out | apply below_alloc | apply pw_below_drewN | apply below_drew1 | refine below_set ?_ GE.out) | exact HB.out)⟩
  · rw [if_neg c] at h
    exact absurd h (by simp)
end Go.Proofs.YtmipaoobkjppdaaDoor.QFnExactFormatLibrary
