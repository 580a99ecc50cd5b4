-- Written by a program of this session, after the kit's print, with contracts by hand.
import Derived.Test.YtmipaoobkjppdaaDoorQFnExactParseInstrx0
import Derived.Test.YtmipaoobkjppdaaDoorQFnExactParseInstrx7
import Derived.Test.YtmipaoobkjppdaaDoorQFnExactParseInstrx9
namespace Go.Proofs.YtmipaoobkjppdaaDoor.QFnExactParseInstr
open Go.RowKit Go.Proofs.YtmipaoobkjppdaaDoorW.PrintWords Go.Proofs.YtmipaoobkjppdaaDoorW.PrintLast Go.Proofs.YtmipaoobkjppdaaDoorW.PrintMore
attribute [local go_sem] max2_int min2_int max_two min_two max_three min_three max_four min_four   -- for this text's walks alone
set_option linter.unusedVariables false
set_option linter.unusedSimpArgs false

/-! ### impl_OpName: function 10 (by hand) -/
def impl_OpName.tab : List ByteArray := [⟨#[]⟩, ⟨#[99, 111, 110, 115, 116]⟩, ⟨#[97, 114, 103]⟩, ⟨#[115, 108, 111, 116]⟩, ⟨#[115, 101, 108, 102]⟩, ⟨#[97, 100, 100]⟩, ⟨#[115, 101, 110, 100]⟩, ⟨#[110, 101, 119]⟩, ⟨#[115, 101, 116]⟩, ⟨#[115, 107, 105, 112]⟩, ⟨#[114, 101, 116, 117, 114, 110]⟩]
def impl_OpName.f (a0 : Int) : Option (ByteArray) := if 1 ≤ a0 ∧ a0 ≤ 10 then some (impl_OpName.tab.getD a0.toNat ⟨#[]⟩) else some ⟨#[]⟩
set_option maxHeartbeats 8000000 in
set_option maxRecDepth 100000 in
theorem impl_OpName.calls (a0 : Int) (r : ByteArray) (w : World) (h : impl_OpName.f a0 = some r) (htab : Go.Proofs.YtmipaoobkjppdaaDoor.TabFnExactParseInstr.Tabs w) :
    Calls Tryd.prog 10 #[.int .i64 a0] w fun e w' => e = .returned (.string r) ∧ Below w.heap.size w w' := by
  have HB := Aside0.mk (Below.refl w.heap.size w)
  have htb := fun i => World.var?_cell (g := 0) (by kernel_rfl) htab.opNames i
  unfold impl_OpName.f at h
  by_cases c : 1 ≤ a0 ∧ a0 ≤ 10
  · rw [if_pos c] at h
    have HIN := Aside0.mk (show impl_in.f a0 1 10 = some true from by unfold impl_in.f; rw [if_pos c.1, decide_eq_true c.2])
    have hc : a0 = 1 ∨ a0 = 2 ∨ a0 = 3 ∨ a0 = 4 ∨ a0 = 5 ∨ a0 = 6 ∨ a0 = 7 ∨ a0 = 8 ∨ a0 = 9 ∨ a0 = 10 := by omega
    clear c
    rcases hc with rfl | rfl | rfl | rfl | rfl | rfl | rfl | rfl | rfl | rfl
    · obtain rfl := Option.some.inj h
      have hcell : w.cell? ⟨0, 1, none⟩ = some (.string ⟨#[99, 111, 110, 115, 116]⟩) := (htb 1).trans rfl
      clear htb h htab
      go_enter Tryd.func10, Tryd.ntmps10
      go_wp2_with (first | (go_at_call 39; (with_reducible refine (impl_in.calls 1 1 10 true _ HIN.out).mono ?_); rintro e w' ⟨rfl, ⟨nd, rfl⟩⟩))
      go_ret
      exact ⟨by first | rfl | (simp; done), by repeat (first | (with_reducible first | exact HB.out | apply below_alloc | apply pw_below_drewN | apply below_drew1) | exact HB.out)⟩
    · obtain rfl := Option.some.inj h
      have hcell : w.cell? ⟨0, 2, none⟩ = some (.string ⟨#[97, 114, 103]⟩) := (htb 2).trans rfl
      clear htb h htab
      go_enter Tryd.func10, Tryd.ntmps10
      go_wp2_with (first | (go_at_call 39; (with_reducible refine (impl_in.calls 2 1 10 true _ HIN.out).mono ?_); rintro e w' ⟨rfl, ⟨nd, rfl⟩⟩))
      go_ret
      exact ⟨by first | rfl | (simp; done), by repeat (first | (with_reducible first | exact HB.out | apply below_alloc | apply pw_below_drewN | apply below_drew1) | exact HB.out)⟩
    · obtain rfl := Option.some.inj h
      have hcell : w.cell? ⟨0, 3, none⟩ = some (.string ⟨#[115, 108, 111, 116]⟩) := (htb 3).trans rfl
      clear htb h htab
      go_enter Tryd.func10, Tryd.ntmps10
      go_wp2_with (first | (go_at_call 39; (with_reducible refine (impl_in.calls 3 1 10 true _ HIN.out).mono ?_); rintro e w' ⟨rfl, ⟨nd, rfl⟩⟩))
      go_ret
      exact ⟨by first | rfl | (simp; done), by repeat (first | (with_reducible first | exact HB.out | apply below_alloc | apply pw_below_drewN | apply below_drew1) | exact HB.out)⟩
    · obtain rfl := Option.some.inj h
      have hcell : w.cell? ⟨0, 4, none⟩ = some (.string ⟨#[115, 101, 108, 102]⟩) := (htb 4).trans rfl
      clear htb h htab
      go_enter Tryd.func10, Tryd.ntmps10
      go_wp2_with (first | (go_at_call 39; (with_reducible refine (impl_in.calls 4 1 10 true _ HIN.out).mono ?_); rintro e w' ⟨rfl, ⟨nd, rfl⟩⟩))
      go_ret
      exact ⟨by first | rfl | (simp; done), by repeat (first | (with_reducible first | exact HB.out | apply below_alloc | apply pw_below_drewN | apply below_drew1) | exact HB.out)⟩
    · obtain rfl := Option.some.inj h
      have hcell : w.cell? ⟨0, 5, none⟩ = some (.string ⟨#[97, 100, 100]⟩) := (htb 5).trans rfl
      clear htb h htab
      go_enter Tryd.func10, Tryd.ntmps10
      go_wp2_with (first | (go_at_call 39; (with_reducible refine (impl_in.calls 5 1 10 true _ HIN.out).mono ?_); rintro e w' ⟨rfl, ⟨nd, rfl⟩⟩))
      go_ret
      exact ⟨by first | rfl | (simp; done), by repeat (first | (with_reducible first | exact HB.out | apply below_alloc | apply pw_below_drewN | apply below_drew1) | exact HB.out)⟩
    · obtain rfl := Option.some.inj h
      have hcell : w.cell? ⟨0, 6, none⟩ = some (.string ⟨#[115, 101, 110, 100]⟩) := (htb 6).trans rfl
      clear htb h htab
      go_enter Tryd.func10, Tryd.ntmps10
      go_wp2_with (first | (go_at_call 39; (with_reducible refine (impl_in.calls 6 1 10 true _ HIN.out).mono ?_); rintro e w' ⟨rfl, ⟨nd, rfl⟩⟩))
      go_ret
      exact ⟨by first | rfl | (simp; done), by repeat (first | (with_reducible first | exact HB.out | apply below_alloc | apply pw_below_drewN | apply below_drew1) | exact HB.out)⟩
    · obtain rfl := Option.some.inj h
      have hcell : w.cell? ⟨0, 7, none⟩ = some (.string ⟨#[110, 101, 119]⟩) := (htb 7).trans rfl
      clear htb h htab
      go_enter Tryd.func10, Tryd.ntmps10
      go_wp2_with (first | (go_at_call 39; (with_reducible refine (impl_in.calls 7 1 10 true _ HIN.out).mono ?_); rintro e w' ⟨rfl, ⟨nd, rfl⟩⟩))
      go_ret
      exact ⟨by first | rfl | (simp; done), by repeat (first | (with_reducible first | exact HB.out | apply below_alloc | apply pw_below_drewN | apply below_drew1) | exact HB.out)⟩
    · obtain rfl := Option.some.inj h
      have hcell : w.cell? ⟨0, 8, none⟩ = some (.string ⟨#[115, 101, 116]⟩) := (htb 8).trans rfl
      clear htb h htab
      go_enter Tryd.func10, Tryd.ntmps10
      go_wp2_with (first | (go_at_call 39; (with_reducible refine (impl_in.calls 8 1 10 true _ HIN.out).mono ?_); rintro e w' ⟨rfl, ⟨nd, rfl⟩⟩))
      go_ret
      exact ⟨by first | rfl | (simp; done), by repeat (first | (with_reducible first | exact HB.out | apply below_alloc | apply pw_below_drewN | apply below_drew1) | exact HB.out)⟩
    · obtain rfl := Option.some.inj h
      have hcell : w.cell? ⟨0, 9, none⟩ = some (.string ⟨#[115, 107, 105, 112]⟩) := (htb 9).trans rfl
      clear htb h htab
      go_enter Tryd.func10, Tryd.ntmps10
      go_wp2_with (first | (go_at_call 39; (with_reducible refine (impl_in.calls 9 1 10 true _ HIN.out).mono ?_); rintro e w' ⟨rfl, ⟨nd, rfl⟩⟩))
      go_ret
      exact ⟨by first | rfl | (simp; done), by repeat (first | (with_reducible first | exact HB.out | apply below_alloc | apply pw_below_drewN | apply below_drew1) | exact HB.out)⟩
    · obtain rfl := Option.some.inj h
      have hcell : w.cell? ⟨0, 10, none⟩ = some (.string ⟨#[114, 101, 116, 117, 114, 110]⟩) := (htb 10).trans rfl
      clear htb h htab
      go_enter Tryd.func10, Tryd.ntmps10
      go_wp2_with (first | (go_at_call 39; (with_reducible refine (impl_in.calls 10 1 10 true _ HIN.out).mono ?_); rintro e w' ⟨rfl, ⟨nd, rfl⟩⟩))
      go_ret
      exact ⟨by first | rfl | (simp; done), by repeat (first | (with_reducible first | exact HB.out | apply below_alloc | apply pw_below_drewN | apply below_drew1) | exact HB.out)⟩
  · rw [if_neg c] at h
    obtain rfl := Option.some.inj h
    have HIN := Aside0.mk (show impl_in.f a0 1 10 = some false from by
      unfold impl_in.f
      by_cases c1 : 1 ≤ a0
      · rw [if_pos c1, decide_eq_false (fun h2 => c ⟨c1, h2⟩)]
      · rw [if_neg c1])
    clear c htb h htab
    go_enter Tryd.func10, Tryd.ntmps10
    go_wp2_with (first | (go_at_call 39; (with_reducible refine (impl_in.calls a0 1 10 false _ HIN.out).mono ?_); rintro e w' ⟨rfl, ⟨nd, rfl⟩⟩))
    go_ret
    exact ⟨by first | rfl | (simp; done), by repeat (first | (with_reducible first | exact HB.out | apply below_alloc | apply pw_below_drewN | apply below_drew1) | exact HB.out)⟩


/-! ### slices_DeleteFunc_int_int: function 70 (by hand) -/
def Tryd.lay_df_ren : Go.Shelf.Ren := ⟨fun | 6 => 94 | 10 => 70 | n => n, fun | 0 => 0 | 3 => 3 | 4 => 4 | 22 => 29 | 23 => 3 | 25 => 23 | n => n, fun n => n⟩
set_option maxRecDepth 100000 in
theorem Tryd.lay_df : Go.Proofs.SlLaysH.n10 Tryd.prog Tryd.lay_df_ren where
  mixed := by kernel_rfl
  f6 := ⟨"slices.IndexFunc[[]int,int]", by decide, Tryd.func94.trans (congrArg some (by kernel_rfl))⟩
  f10 := ⟨"slices.DeleteFunc[[]int,int]", by decide, Tryd.func70.trans (congrArg some (by kernel_rfl))⟩
  t0 := Tryd.underlying0
  a0 := Tryd.isAgg0
  z0 := Tryd.sizeOf0
  v0 := Tryd.zeroValue0
  t3 := Tryd.underlying3
  a3 := Tryd.isAgg3
  z3 := Tryd.sizeOf3
  v3 := Tryd.zeroValue3
  t4 := Tryd.underlying4
  a4 := Tryd.isAgg4
  z4 := Tryd.sizeOf4
  v4 := Tryd.zeroValue4
  t22 := Tryd.underlying29
  a22 := Tryd.isAgg29
  z22 := Tryd.sizeOf29
  v22 := Tryd.zeroValue29
  a23 := Tryd.isAgg3
  z23 := Tryd.sizeOf3
  t25 := Tryd.underlying23
  a25 := Tryd.isAgg23
  z25 := Tryd.sizeOf23
  v25 := Tryd.zeroValue23


/-! ### impl_some_1: function 71 -/
def impl_some_1.f (a0 : Int) : Option (Bool) := some (a0 == (-1))
set_option maxHeartbeats 8000000 in
set_option maxRecDepth 100000 in
theorem impl_some_1.calls (a0 : Int) (r : Bool) (w : World) (h : impl_some_1.f a0 = some r) :
    Calls Tryd.prog 71 #[.int .i64 a0] w fun e w' => e = .returned (.bool r) ∧ Drawn0 w w' := by
  have H : (some (a0 == (-1))) = some r := h
  clear h
  obtain rfl := Option.some.inj H
  go_enter Tryd.func71, Tryd.ntmps71
  go_wp2
  go_ret
  exact ⟨by first | rfl | (simp; done) | (simp [*]; done), by repeat (first | exact Drawn0.refl _ | apply Drawn0.step)⟩

/-! ### impl_some: function 42 (by hand) -/
def impl_some.L (C D : Int) : List Int := [C, D].filter fun x => !(x == -1)
theorem impl_some.gn (W : World) : Go.Sort.grow W #[] = W := by cases W; simp [Go.Sort.grow]
theorem impl_some.len (C D : Int) : (impl_some.L C D).length ≤ 2 := List.length_filter_le _ _
set_option maxHeartbeats 8000000 in
set_option maxRecDepth 100000 in
theorem impl_some.at (v : Value) (C D : Int) (base : Nat) (w : World) (ok : Nat → Prop) (hR : Kd.R (Kd.int .i64) 3 w base ok v [C, D]) :
    Calls Tryd.prog 42 #[v] w fun e w' => ∃ v', e = .returned v' ∧ Kd.R (Kd.int .i64) 3 w' base ok v' (impl_some.L C D) ∧ w.grownBy w' v.ownBlock ∧ v'.ownBlock = v.ownBlock := by
  have e71 : ∀ args w, (callFunc 71 args).run Tryd.prog w = .ok (.enter 71 args) w := enters_of Tryd.func71 (by kernel_rfl) rfl
  have ho : w.ownsRow base 3 1 v 2 ([C, D].map (Value.int .i64)) := Kd.own_of_R hR
  have hok := hR.1
  rcases ho.2 with ⟨rfl, h0⟩ | ⟨g, cap, cur, rfl, hbase, hb, hn, hcap, hsz, htk⟩
  · exact absurd h0 (by decide)
  have hH : Go.Sort.Holds (Value.int .i64) w g 0 #[C, D] := Go.holds_of_blockI (ss := [C, D]) hb htk
  have hd := Go.Proofs.AnyE.slices_DeleteFunc (P := Tryd.prog) (ρ := Tryd.lay_df_ren) Tryd.lay_df (Value.int .i64) (fun _ => rfl) (fun x => x == -1) 71 #[] e71 0 (fun w => Tryd.zeroValue3 w) g 0 cap #[C, D] w
    (fun W x _ => by have hc := impl_some_1.calls x (x == -1) W rfl; refine (show Calls Tryd.prog 71 (#[Value.int .i64 x] ++ #[]) W _ from hc).mono ?_; rintro e w' ⟨he, nd, hd⟩; exact ⟨he, nd, hd⟩)
    (fun nn os dk x _ => by have hc := impl_some_1.calls x (x == -1) (Go.Proofs.sortWorld (Value.int .i64) w g 0 nn dk os) rfl; refine (show Calls Tryd.prog 71 (#[Value.int .i64 x] ++ #[]) _ _ from hc).mono ?_; rintro e w' ⟨he, nd, hd⟩; exact ⟨he, nd, hd⟩)
    hH (by simp) hn
  have hdc : Calls Tryd.prog 70 #[.slice (some ⟨g, 0, none⟩) 2 cap, .func (.func 71) #[] #[]] w _ := hd
  have hts : ((impl_some.L C D) ++ List.replicate (2 - (impl_some.L C D).length) 0).length = [C, D].length := by
    unfold impl_some.L
    simp only [List.filter_cons, List.filter_nil]
    split <;> split <;> rfl
  have HD := Aside0.mk hdc
  clear hd hdc
  go_enter Tryd.func42, Tryd.ntmps42
  go_wp2_with (go_at_call 70; refine HD.out.mono ?_; rintro e w' ⟨rfl, q, rfl⟩)
  go_ret
  have hs := Go.ownsRow_sortedI (n := q) (os := #[]) hts hbase hb hn hcap hsz
  have hz : Go.Sort.grow (Go.Sort.putRow (Value.int .i64) (Go.Sort.ahead w q) g 0 ((impl_some.L C D) ++ List.replicate (2 - (impl_some.L C D).length) 0).toArray) #[] = Go.Sort.putRow (Value.int .i64) (Go.Sort.ahead w q) g 0 ((impl_some.L C D) ++ List.replicate (2 - (impl_some.L C D).length) 0).toArray := impl_some.gn _
  rw [hz] at hs
  have hg := Go.grownBy_sortedI (w := w) (g := g) (n := q) (os := #[]) ((impl_some.L C D) ++ List.replicate (2 - (impl_some.L C D).length) 0).toArray
  rw [hz] at hg
  have hR2 := Kd.R_take (m := (impl_some.L C D).length) (Kd.R_of_own (h1 := fun _ => rfl) (enc := Value.int .i64) (xs := (impl_some.L C D) ++ List.replicate (2 - (impl_some.L C D).length) 0) (by rw [hts]; exact hs) hok) (by rw [List.length_append]; omega)
  rw [List.take_left] at hR2
  exact ⟨_, rfl, hR2, hg, rfl⟩
def impl_some.f (l0 : List Int) : Option (List Int) := if l0.length = 2 then some (l0.filter fun x => !(x == -1)) else none
theorem impl_some.calls (P0_ : Nat → Prop) (u9000_ : Value) (l0 : List Int) (r : List Int) (w0 w : World) (hB : Below w0.heap.size w0 w) (ho0 : Kd.R (Kd.int .i64) 3 w w0.heap.size P0_ u9000_ l0) (h : impl_some.f l0 = some r) :
    Calls Tryd.prog 42 #[u9000_] w fun e w' => ∃ v0_ : Value, e = .returned (v0_) ∧ Kd.R (Kd.int .i64) 3 w' w0.heap.size (fun k_ => (P0_ k_ ∨ w.heap.size ≤ k_)) v0_ r ∧ Below w0.heap.size w0 w' ∧ Kept w w' (fun k_ => P0_ k_) := by
  unfold impl_some.f at h
  by_cases c : l0.length = 2
  · rw [if_pos c] at h
    obtain rfl := Option.some.inj h
    obtain ⟨C, D, rfl⟩ : ∃ C D, l0 = [C, D] := by
      match l0, c with
      | [C, D], _ => exact ⟨C, D, rfl⟩
    refine (impl_some.at u9000_ C D w0.heap.size w P0_ ho0).mono ?_
    rintro e w' ⟨v', rfl, hr, hg, hob⟩
    refine ⟨v', rfl, Kd.R_mono hr (fun k_ hk => .inl hk), Below.grown hB hg (below_size hB) (fun k hk => Kd.R_base ho0 k hk), hg.size, fun i hi hs => hg.block i hi (fun he => hs (ho0.1 i he.symm))⟩
  · rw [if_neg c] at h
    exact absurd h (by simp)


/-! ### strconv_Itoa: function 95 (by hand) -/
def strconv_Itoa.f (a0 : Int) : Option (ByteArray) := if -9223372036854775808 ≤ a0 then (if a0 ≤ 9223372036854775807 then some ⟨(Go.Lib.itoa a0).toArray⟩ else none) else none
theorem strconv_Itoa.calls (a0 : Int) (r : ByteArray) (w : World) (h : strconv_Itoa.f a0 = some r) (htab : Go.Proofs.YtmipaoobkjppdaaDoor.TabFnExactParseInstr.Tabs w) :
    Calls Tryd.prog 95 #[.int .i64 a0] w fun e w' => e = .returned (.string r) ∧ Below w.heap.size w w' := by
  unfold strconv_Itoa.f at h
  by_cases h0 : -9223372036854775808 ≤ a0
  · rw [if_pos h0] at h
    by_cases h1 : a0 ≤ 9223372036854775807
    · rw [if_pos h1] at h
      obtain rfl := Option.some.inj h
      have hc : Calls Tryd.prog 95 #[.int .i64 a0] w _ := Go.Proofs.Any.strconv_Itoa Tryd.lay171 a0 h0 h1 w htab.pow10
      refine hc.mono ?_
      rintro e w' ⟨rfl, k, os, rfl⟩
      exact ⟨rfl, ⟨rfl, rfl, rfl, by show w.heap.size ≤ (w.heap ++ os).size; rw [Array.size_append]; omega, fun j hj => by show (w.heap ++ os)[j]? = w.heap[j]?; rw [Array.getElem?_append, if_pos hj]⟩⟩
    · rw [if_neg h1] at h
      exact absurd h (by simp)
  · rw [if_neg h0] at h
    exact absurd h (by simp)


/-! ### impl_FormatInt: function 75 -/
def impl_FormatInt.f (a0 : Int) : Option (ByteArray) := (strconv_Itoa.f a0).bind fun t213 => (some t213)
set_option maxHeartbeats 8000000 in
set_option maxRecDepth 100000 in
theorem impl_FormatInt.calls (a0 : Int) (r : ByteArray) (w : World) (h : impl_FormatInt.f a0 = some r) (htab : Go.Proofs.YtmipaoobkjppdaaDoor.TabFnExactParseInstr.Tabs w) :
    Calls Tryd.prog 75 #[.int .i64 a0] w fun e w' => e = .returned (.string r) ∧ Below w.heap.size w w' := by
  have HTAB := Aside0.mk htab
  clear htab
  have HB := Aside0.mk (Below.refl w.heap.size w)
  have H : ((strconv_Itoa.f a0).bind fun t213 => (some t213)) = some r := h
  clear h
  replace H := Option.bind_eq_some_iff.mp H
  obtain ⟨t213, A20, H⟩ := H
  replace H : (some t213) = some r := H
  have A2 := Aside0.mk A20
  clear A20
  obtain rfl := Option.some.inj H
  go_enter Tryd.func75, Tryd.ntmps75
  go_wp2_with (first | ((with_reducible refine gate_callee (f := 95) rfl ?_); refine goesL_ (some 4) rfl rfl Tryd.func95 (by kernel_rfl) rfl #[.int .i64 a0] rfl (by (try simp only [List.map_toArray, List.map_cons, List.map_nil]); first | done | rfl | (simp only [List.length_drop, List.length_take]; rfl)) ?_; (with_reducible refine (strconv_Itoa.calls a0 t213 _ A2.out ?tab1).mono ?_); (case tab1 => exact (HTAB.out).below (by repeat (first | (with_reducible first | exact HB.out | apply below_alloc | apply pw_below_drewN | apply below_drew1) | exact HB.out))); rintro e w3 ⟨rfl, hb⟩; refine ⟨_, rfl, ?_⟩; have n0_ := Aside0.mk (below_step (by repeat (first | (with_reducible first | exact HB.out | apply below_alloc | apply pw_below_drewN | apply below_drew1) | exact HB.out)) hb); clear HB; have HB := n0_; clear n0_; (try clear hb); (try clear hb2); (try clear hk); (try clear hi)))
  go_ret
  exact ⟨by first | rfl | (simp [errW_none, errW_some] <;> rfl) | (simp [*, errW_none, errW_some] <;> rfl), by repeat (first | (with_reducible first | exact HB.out | apply below_alloc | apply pw_below_drewN | apply below_drew1) | exact HB.out)⟩

/-! ### impl_formatInstr_1: function 74 (by hand) -/
theorem impl_formatInstr_1.fi (n : Int) (h0 : -9223372036854775808 ≤ n) (h1 : n ≤ 9223372036854775807) : impl_FormatInt.f n = some (⟨(Go.Lib.itoa n).toArray⟩ : ByteArray) := by
  unfold impl_FormatInt.f strconv_Itoa.f
  rw [if_pos h0, if_pos h1]
  rfl
def impl_formatInstr_1.S (n : Int) : ByteArray := ⟨(Go.Lib.itoa n).toArray⟩
set_option maxHeartbeats 8000000 in
set_option maxRecDepth 100000 in
theorem impl_formatInstr_1.at (gW : Nat) (v0 : Value) (ws : List ByteArray) (A0 : Option Addr) (c0 : Nat) (l0 : List Int) (w0 w : World) (hB : Below w0.heap.size w0 w) (hbox : w.heap[gW]? = some (.cells #[v0] 62 (0, 0))) (hbg : w0.heap.size ≤ gW) (hR : Kd.R Kd.string 9 w w0.heap.size (fun _ => True) v0 ws)
    (hC : ∀ W_, Kept w W_ (fun k => k = gW ∨ v0.ownBlock = some k) → Kd.C (Kd.int .i64) W_ A0 l0.length l0) (hc : l0.length ≤ c0) (hfit : ∀ x ∈ l0, -9223372036854775808 ≤ x ∧ x ≤ 9223372036854775807) (hlen : ws.length + l0.length ≤ 1000) (htab : Go.Proofs.YtmipaoobkjppdaaDoor.TabFnExactParseInstr.Tabs w0) :
    Calls Tryd.prog 74 #[.slice A0 l0.length c0, .pointer (some ⟨gW, 0, none⟩)] w fun e w' => e = .returned (.tuple #[]) ∧ ∃ v', w'.heap[gW]? = some (.cells #[v'] 62 (0, 0)) ∧ Kd.R Kd.string 9 w' w0.heap.size (fun _ => True) v' (ws ++ l0.map impl_formatInstr_1.S) ∧ Below w0.heap.size w0 w' ∧ Kept w w' (fun k => k = gW ∨ v0.ownBlock = some k) := by
  have HC0 := Aside0.mk hC
  have HFIT := Aside0.mk hfit
  have HLEN := Aside0.mk hlen
  have HTAB := Aside0.mk htab
  have HG := Aside0.mk hbg
  have X1 := Aside0.mk hB
  have X2 := Aside0.mk hbox
  have X3 := Aside0.mk hR
  clear hC hfit hlen htab hbg hB hbox hR hc
  go_enter Tryd.func74, Tryd.ntmps74
  go_wp2
  go_loopg [4, 7] l0.length (fun kq _ v7 w' => ∃ (kk : Nat) (v : Value), v7 = .int .i64 (kk : Int) ∧ Aside0 (kk ≤ l0.length ∧ l0.length - kk ≤ kq) ∧ Aside0 (w'.heap[gW]? = some (.cells #[v] 62 (0, 0))) ∧ Aside0 (Kd.R Kd.string 9 w' w0.heap.size (fun _ => True) v (ws ++ (l0.take kk).map impl_formatInstr_1.S)) ∧ Aside0 (Below w0.heap.size w0 w') ∧ Aside0 (Kept w w' (fun k => k = gW ∨ v0.ownBlock = some k)) ∧ Aside0 (v.ownBlock = v0.ownBlock ∨ ∃ b, v.ownBlock = some b ∧ w.heap.size ≤ b))
  case atStart => exact ⟨0, v0, rfl, ⟨by omega, by omega⟩, ⟨X2.out⟩, ⟨by simpa using X3.out⟩, ⟨X1.out⟩, ⟨Kept.refl _ _⟩, ⟨.inl rfl⟩⟩
  case round =>
    clear X1 X2 X3
    obtain ⟨kk, v, rfl, HK, BW, HW, HB, HKp, HAT⟩ := hrel
    by_cases hkl : kk < l0.length
    · have cq1 : (kk : Int) < (l0.length : Int) := by omega
      have c0_ : (0 : Int) ≤ (kk : Int) := by omega
      have c1b : decide ((kk : Int) < (l0.length : Int)) = true := decide_eq_true cq1
      have hkn : 0 < gk := by have := HK.out; omega
      have hci := HC0.out wr HKp.out
      obtain ⟨ad, e0, hx0⟩ := Kd.at_int hci (kk : Int) c0_ cq1
      cases e0
      simp only [Int.toNat_natCast] at hx0
      obtain ⟨n, hn⟩ : ∃ n, n = l0[kk] := ⟨_, rfl⟩
      have hrd : rd l0 (kk : Int) = n := by
        rw [hn]
        unfold rd
        rw [Int.toNat_natCast, List.getD_eq_getElem?_getD, List.getElem?_eq_getElem hkl]
        rfl
      rw [hrd] at hx0
      have hf := HFIT.out n (by rw [hn]; exact List.getElem_mem hkl)
      have AF := Aside0.mk (show impl_FormatInt.f n = some (impl_formatInstr_1.S n) from impl_formatInstr_1.fi n hf.1 hf.2)
      have HLY := Aside0.mk (show (ws ++ (l0.take kk).map impl_formatInstr_1.S).length ≤ 1000 from by have := HLEN.out; rw [List.length_append, List.length_map, List.length_take]; omega)
      have HTK := Aside0.mk (show ws ++ (l0.take (kk + 1)).map impl_formatInstr_1.S = (ws ++ (l0.take kk).map impl_formatInstr_1.S) ++ [impl_formatInstr_1.S n] from by rw [List.take_add_one, List.getElem?_eq_getElem hkl, hn, List.map_append, List.append_assoc]; rfl)
      obtain ⟨y, hy⟩ : ∃ y, y = ws ++ (l0.take kk).map impl_formatInstr_1.S := ⟨_, rfl⟩
      rw [← hy] at HW HLY HTK
      obtain ⟨Av, cv, ev⟩ := Kd.R_slice HW.out
      subst ev
      have hcw : wr.cell? ⟨gW, 0, none⟩ = some (.slice Av y.length cv) := (blk_cell BW.out 0).trans rfl
      have HL := Aside0.mk hkl
      have cq0b := eq_true c0_
      have c1c := eq_true cq1
      clear hkl cq1 c0_ hci hf hn hrd hy
      go_wp2
      have n1_ := Aside0.mk (blk_drew BW.out)
      have n2_ := Aside0.mk (Kd.R_drew HW.out)
      have n3_ := Aside0.mk (below_drew1 HB.out)
      have n4_ := Aside0.mk (Kept.drew HKp.out)
      clear BW HW HB HKp
      have BW := n1_
      have HW := n2_
      have HB := n3_
      have HKp := n4_
      clear n1_ n2_ n3_ n4_
      refine start_ (n := 6) (S := fun w' => w'.cell? ⟨gW, 0, none⟩ = some (.slice Av y.length cv)) (ds := [5]) #[false, false, false, false, false, false] (by kernel_rfl) rfl rfl ((blk_cell BW.out 0).trans rfl) (fun hHeld => ?_)
      generalize wr.drew = wd at BW HW HB HKp hHeld ⊢
      refine take_ (i := 0) (N := some 11) (v := ?_) (a' := ?_) #[true, false, false, false, false, false] rfl rfl (by kernel_rfl) (fun _ _ _ h => h) (Or.inl ⟨by rfl, ?_⟩) hHeld ?_ ?_
      rotate_left
      · intro w' s0
        go_simp
        with_reducible rfl
      rotate_left
      · simp only [Act.put, List.setIfInBounds_toArray, List.set_cons_zero, List.set_cons_succ, i64_w, i32_w]
        rfl
      refine pure_ (i := 1) (N := some 12) (v := ?_) (a' := ?_) #[true, true, false, false, false, false] rfl rfl (by kernel_rfl) (fun _ _ _ h => h) (Or.inl ⟨by rfl, ?_⟩) ?_ ?_
      rotate_left
      · intro w'
        go_simp
        with_reducible rfl
      rotate_left
      · simp only [Act.put, List.setIfInBounds_toArray, List.set_cons_zero, List.set_cons_succ, i64_w, i32_w]
        rfl
      refine one_ (i := 2) (N := some 13) #[true, true, true, false, false, false] rfl rfl (by kernel_rfl) (by decide) (fun K hK => ?_)
      refine goes_ Tryd.func75 (by kernel_rfl) rfl #[.int .i64 n] (by rfl) rfl rfl (by (try simp only [List.map_toArray, List.map_cons, List.map_nil]); first | done | rfl) ?_
      with_reducible refine (impl_FormatInt.calls n (impl_formatInstr_1.S n) _ AF.out ?tabF).mono ?_
      (case tabF => exact (HTAB.out).below (by repeat (first | (with_reducible first | exact HB.out | apply below_alloc | apply pw_below_drewN | apply below_drew1) | exact HB.out)))
      rintro e w1 ⟨rfl, hb⟩
      refine ⟨_, rfl, ?_⟩
      have n1_ := Aside0.mk (blk_below BW.out hb)
      have n2_ := Aside0.mk (Kd.R_below HW.out hb)
      have n3_ := Aside0.mk (below_step (by repeat (first | (with_reducible first | exact HB.out | apply below_alloc | apply pw_below_drewN | apply below_drew1) | exact HB.out)) hb)
      have n4_ := Aside0.mk (Kept.below HKp.out hb)
      clear BW HW HB HKp
      have BW := n1_
      have HW := n2_
      have HB := n3_
      have HKp := n4_
      clear n1_ n2_ n3_ n4_
      clear hb
      refine hK.out _ _ ((blk_cell BW.out 0).trans rfl) (fun hHeld => ?_)
      clear hK K
      refine norm_ (a' := ?_) ?_ ?_
      rotate_left
      · show Act.put _ (some 13) _ = _
        simp only [Act.put, List.setIfInBounds_toArray, List.set_cons_zero, List.set_cons_succ, i64_w, i32_w]
        rfl
      refine one_ (i := 3) (N := some 14) #[true, true, true, true, false, false] rfl rfl (by kernel_rfl) (by decide) (fun K hK => ?_)
      refine Kd.R_lit_step Kd.string _ 9 ?hg14 (N := 14) ?hd14 (xs := [impl_formatInstr_1.S n]) (inner := [.string (impl_formatInstr_1.S n)]) (ok := fun _ => True) (okp := fun _ => True) ?hr14 ?hp14 (fun _ hk => hk) trivial (Below.refl _ _) (Nat.le_refl _) (by simp) ?_
      (case hd14 => rfl)
      (case hg14 => rfl)
      (case hr14 => first | (go_simp; done) | (go_simp; rfl))
      (case hp14 => exact Kd.reps_scalar [impl_formatInstr_1.S n])
      intro v14 w2 ho hb hg_ hnew_
      obtain ⟨A14, c14, e14, hcl14, hC14⟩ := Kd.R_reads ho
      subst e14
      have HC14 := Aside0.mk hC14
      have n1_ := Aside0.mk (blk_below BW.out hb)
      have n2_ := Aside0.mk (Kd.R_below HW.out hb)
      have n3_ := Aside0.mk (below_step (by repeat (first | (with_reducible first | exact HB.out | apply below_alloc | apply pw_below_drewN | apply below_drew1) | exact HB.out)) hb)
      have n4_ := Aside0.mk (Kept.below HKp.out hb)
      clear BW HW HB HKp
      have BW := n1_
      have HW := n2_
      have HB := n3_
      have HKp := n4_
      clear n1_ n2_ n3_ n4_
      clear hb ho hg_ hnew_ hcl14 hC14
      refine hK.out _ _ ((blk_cell BW.out 0).trans rfl) (fun hHeld => ?_)
      clear hK K
      refine norm_ (a' := ?_) ?_ ?_
      rotate_left
      · show Act.put _ (some 14) _ = _
        simp only [Act.put, List.setIfInBounds_toArray, List.set_cons_zero, List.set_cons_succ, i64_w, i32_w]
        rfl
      refine one_ (i := 4) (N := some 15) #[true, true, true, true, true, false] rfl rfl (by kernel_rfl) (by decide) (fun K hK => ?_)
      refine Kd.R_append_rows_step Kd.string (w0 := w0) w0.heap.size (by rfl) (.tmp 11) (.tmp 14) 62 9 (.string ⟨#[]⟩) 16 rfl Tryd.underlying62 info9 rfl (by decide) (by omega) (.slice Av y.length cv) y [impl_formatInstr_1.S n] _ _ _ (fun _ => True) (fun _ => False) rfl rfl HW.out HC14.out (fun _ _ h => h) (fun _ h => h.elim) (fun _ _ => trivial) (by repeat (first | (with_reducible first | exact HB.out | apply below_alloc | apply pw_below_drewN | apply below_drew1) | exact HB.out)) (below_size (by repeat (first | (with_reducible first | exact HB.out | apply below_alloc | apply pw_below_drewN | apply below_drew1) | exact HB.out))) ?aL ?_
      (case aL => (have hl_ := HLY.out; simp only [List.length_singleton]; omega))
      intro v5 w3 ho hb hg hat
      obtain ⟨A5, c5, e5⟩ := Kd.R_slice ho
      subst e5
      have hne_ := Kd.R_ne HW.out BW.out (by decide)
      have n1_ := Aside0.mk ((hg.block gW (blk_lt BW.out) hne_).trans BW.out)
      have n4_ := Aside0.mk (Kept.of_grown hg HKp.out (fun k hk => HAT.out.elim (fun h => .inl (.inr (h.symm.trans hk))) (fun ⟨b, h1, h2⟩ => .inr (by rw [h1] at hk; cases hk; exact h2))))
      have n5_ := Aside0.mk (hat.elim (fun h => HAT.out.elim (fun h' => Or.inl (h.trans h')) (fun ⟨b, h1, h2⟩ => Or.inr ⟨b, h.trans h1, h2⟩)) (fun ⟨b, h1, h2⟩ => Or.inr ⟨b, h1, Nat.le_trans HKp.out.1 h2⟩) : (Value.slice A5 (y ++ [impl_formatInstr_1.S n]).length c5).ownBlock = v0.ownBlock ∨ ∃ b, (Value.slice A5 (y ++ [impl_formatInstr_1.S n]).length c5).ownBlock = some b ∧ w.heap.size ≤ b)
      have n2_ := Aside0.mk ho
      have n3_ := Aside0.mk hb
      clear BW HW HB HKp HAT
      have BW := n1_
      have HW := n2_
      have HB := n3_
      have HKp := n4_
      have HAT := n5_
      clear n1_ n2_ n3_ n4_ n5_ ho hb hg hat hne_
      refine hK.out _ _ ((blk_cell BW.out 0).trans rfl) (fun hHeld => ?_)
      clear hK K
      refine norm_ (a' := ?_) ?_ ?_
      rotate_left
      · show Act.put _ (some 15) _ = _
        simp only [Act.put, List.setIfInBounds_toArray, List.set_cons_zero, List.set_cons_succ, i64_w, i32_w]
        rfl
      refine last_ (i := 5) (N := none) #[true, true, true, true, true, true] rfl rfl (by kernel_rfl) (by decide) (fun K hK => ?_)
      rw [if_pos (by rfl)]
      unfold Oper.wp
      have hcw3 : w3.cell? ⟨gW, 0, none⟩ = some (.slice Av y.length cv) := (blk_cell BW.out 0).trans rfl
      have hfw3 := blk_frozen BW.out 0
      rw [show (execOp _ _).run _ _ = .ok .skip (w3.setCell ⟨gW, 0, none⟩ (.slice A5 (y ++ [impl_formatInstr_1.S n]).length c5)) from by first | (go_simp; done) | (go_simp; rfl)]
      obtain ⟨w4, hw⟩ : ∃ W_, W_ = w3.setCell ⟨gW, 0, none⟩ (.slice A5 (y ++ [impl_formatInstr_1.S n]).length c5) := ⟨_, rfl⟩
      rw [← hw]
      have n2_ := Aside0.mk (show Kd.R Kd.string 9 w4 w0.heap.size (fun _ => True) (.slice A5 (y ++ [impl_formatInstr_1.S n]).length c5) (y ++ [impl_formatInstr_1.S n]) from by rw [hw]; exact Kd.R_set HW.out BW.out (by decide) 0 _)
      have n1_ := Aside0.mk (show w4.heap[gW]? = some (.cells #[.slice A5 (y ++ [impl_formatInstr_1.S n]).length c5] 62 (0, 0)) from by rw [hw]; exact blk_put BW.out 0 _ rfl)
      have n3_ := Aside0.mk (show Below w0.heap.size w0 w4 from by rw [hw]; exact below_set HB.out HG.out)
      have n4_ := Aside0.mk (show Kept w w4 (fun k => k = gW ∨ v0.ownBlock = some k) from by rw [hw]; exact Kept.setCell HKp.out (.inl (.inl rfl)) _)
      clear BW HW HB HKp
      have BW := n1_
      have HW := n2_
      have HB := n3_
      have HKp := n4_
      clear n1_ n2_ n3_ n4_ hw
      refine hK.out _ _ ?_
      clear hK K
      refine done_ (by kernel_rfl) ?_
      go_wp2
      have ew : wrap64 ((kk : Int) + 1) = ((kk + 1 : Nat) : Int) := by have h1 := HL.out; have h2 := HLEN.out; unfold wrap64; omega
      go_roundg (gk - 1)
      case measure => omega
      case rel => exact ⟨kk + 1, _, by rw [ew], ⟨by have := HK.out; have := HL.out; omega⟩, BW, ⟨by rw [HTK.out]; exact HW.out⟩, HB, HKp, HAT⟩
    · have hk : kk = l0.length := by have := HK.out.1; omega
      subst hk
      have c1b : decide ((l0.length : Int) < (l0.length : Int)) = false := decide_eq_false (by omega)
      have hW := HW.out
      rw [List.take_length] at hW
      go_wp2
      first | go_end0 | ((try simp only [Exit.inBlock, Exit.then]); refine bodyPost_ret (results_none rfl _ _ _) rfl ?_)
      exact ⟨rfl, v, BW.out, hW, HB.out, HKp.out⟩


/-! ### strings_Join: function 76 (by hand) -/
def strings_Join.J (y : List ByteArray) : ByteArray := ⟨(Go.Lib.join (y.map (·.data.toList)) [32]).toArray⟩
theorem strings_Join.at (v : Value) (y : List ByteArray) (hy : 0 < y.length) (b : Nat) (ok : Nat → Prop) (w : World) (hR : Kd.R Kd.string 9 w b ok v y) (hN : y.length ≤ 1000) (hlen : (Go.Lib.join (y.map (·.data.toList)) [32]).length ≤ 140737488355328) :
    Calls Tryd.prog 76 #[v, .string ⟨#[32]⟩] w fun e w' => e = .returned (.string (strings_Join.J y)) ∧ Below w.heap.size w w' := by
  obtain ⟨g, cap, rfl, hb, hg, _⟩ := Kd.R_form hR hy
  have hc := (Kd.R_reads' hR).2.1
  have hj : Calls Tryd.prog 76 #[.slice (some ⟨g, 0, none⟩) y.length cap, .string ⟨#[32]⟩] w _ := Go.Proofs.Any.strings_Join Tryd.lay156 Tryd.ext156 g 0 cap y ⟨#[32]⟩ w (fun j x hx => by
    have hj := (List.getElem?_eq_some_iff.1 hx).1
    have h1 := (Kd.R_cell ByteArray.empty hR (j : Int) (by omega) (by omega)).1
    rw [Int.toNat_natCast] at h1
    rw [Nat.zero_add, h1]
    unfold rdOf
    rw [Int.toNat_natCast, List.getD_eq_getElem?_getD, hx]
    rfl) hg (by omega) hc hlen
  exact hj


/-! ### impl_formatInstr: function 49 (by hand) -/
theorem impl_formatInstr.bx {w : World} {g : Nat} {a0_0 a0_1 a0_2 a0_3 a0_4 : Int} {a0_5 : ByteArray} (h : w.heap[g]? = some (.cells #[.int .i64 a0_0, .int .i64 a0_1, .int .i64 a0_2, .int .i64 a0_3, .int .i64 a0_4, .string a0_5] 27 (0, 0))) :
    w.cell? ⟨g, 0, none⟩ = some (Value.int .i64 a0_0) ∧ w.cell? ⟨g, 1, none⟩ = some (Value.int .i64 a0_1) ∧ w.cell? ⟨g, 2, none⟩ = some (Value.int .i64 a0_2) ∧ w.cell? ⟨g, 3, none⟩ = some (Value.int .i64 a0_3) ∧ w.cell? ⟨g, 4, none⟩ = some (Value.int .i64 a0_4) ∧ w.cell? ⟨g, 5, none⟩ = some (Value.string a0_5) ∧
    w.frozen? ⟨g, 0, none⟩ = false ∧ w.frozen? ⟨g, 1, none⟩ = false ∧ w.frozen? ⟨g, 2, none⟩ = false ∧ w.frozen? ⟨g, 3, none⟩ = false ∧ w.frozen? ⟨g, 4, none⟩ = false ∧ w.frozen? ⟨g, 5, none⟩ = false :=
  ⟨(blk_cell h 0).trans rfl, (blk_cell h 1).trans rfl, (blk_cell h 2).trans rfl, (blk_cell h 3).trans rfl, (blk_cell h 4).trans rfl, (blk_cell h 5).trans rfl, blk_frozen h 0, blk_frozen h 1, blk_frozen h 2, blk_frozen h 3, blk_frozen h 4, blk_frozen h 5⟩
theorem impl_formatInstr.lit {l : List Int} {gW : Nat} {v0 vl : Value} {w W : World} {ok : Nat → Prop} (h : Kd.R (Kd.int .i64) 3 w W.heap.size ok vl l) (hlt : gW < W.heap.size) (hv : ∀ k, v0.ownBlock = some k → k < W.heap.size) : ∃ A c, vl = .slice A l.length c ∧ l.length ≤ c ∧ ∀ W_, Kept w W_ (fun k => k = gW ∨ v0.ownBlock = some k) → Kd.C (Kd.int .i64) W_ A l.length l := by
  obtain ⟨A, c, rfl, hc, _⟩ := Kd.R_reads h
  refine ⟨A, c, rfl, hc, fun W_ hk => ?_⟩
  have h2 := Kd.R_kept (Kd.R_of_own (enc := Value.int .i64) (h1 := fun _ => rfl) (Kd.own_of_R h) (ok := fun k => W.heap.size ≤ k) (fun k hk => Kd.R_base h k hk)) hk (fun k ho hs => by
    rcases hs with rfl | hs
    · omega
    · have := hv k hs
      omega)
  exact (Kd.R_reads' h2).2.2
theorem impl_formatInstr.keepS {w W : World} {b : Nat} {v : Value} {ws : List ByteArray} {S : Nat → Prop} (h : Kd.R Kd.string 9 w b (fun _ => True) v ws) (hk : Kept w W S) (hne : ∀ k, v.ownBlock = some k → ¬ S k) : Kd.R Kd.string 9 W b (fun _ => True) v ws :=
  Kd.R_mono (Kd.R_kept (Kd.R_of_own (enc := Value.string) (h1 := fun _ => rfl) (Kd.own_of_R h) (ok := fun k => v.ownBlock = some k) (fun k hk => hk)) hk hne) (fun _ _ => trivial)
def impl_formatInstr.W (o : ByteArray) (a0_0 a0_1 a0_2 a0_3 a0_4 : Int) (a0_5 : ByteArray) : List ByteArray :=
  if a0_0 = 4 ∨ a0_0 = 10 then [o] ++ ([a0_1]).map impl_formatInstr_1.S
  else if a0_0 = 5 then [o] ++ ([a0_1, a0_2, a0_3]).map impl_formatInstr_1.S
  else if a0_0 = 6 then [o] ++ ([a0_1, a0_2]).map impl_formatInstr_1.S ++ [a0_5] ++ (impl_some.L a0_3 a0_4).map impl_formatInstr_1.S
  else if a0_0 = 7 then [o] ++ ([a0_1]).map impl_formatInstr_1.S ++ [a0_5] ++ (impl_some.L a0_3 a0_4).map impl_formatInstr_1.S
  else [o] ++ ([a0_1, a0_2]).map impl_formatInstr_1.S
def impl_formatInstr.f (a0_0 a0_1 a0_2 a0_3 a0_4 : Int) (a0_5 : ByteArray) : Option ByteArray := (impl_OpName.f a0_0).bind fun o => if (∀ x ∈ [a0_1, a0_2, a0_3, a0_4], -9223372036854775808 ≤ x ∧ x ≤ 9223372036854775807) ∧ (Go.Lib.join ((impl_formatInstr.W o a0_0 a0_1 a0_2 a0_3 a0_4 a0_5).map (·.data.toList)) [32]).length ≤ 140737488355328 then some (strings_Join.J (impl_formatInstr.W o a0_0 a0_1 a0_2 a0_3 a0_4 a0_5)) else none
set_option maxHeartbeats 8000000 in
set_option maxRecDepth 100000 in
theorem impl_formatInstr.calls (a0_0 a0_1 a0_2 a0_3 a0_4 : Int) (a0_5 : ByteArray) (r : ByteArray) (w : World) (h : impl_formatInstr.f a0_0 a0_1 a0_2 a0_3 a0_4 a0_5 = some r) (htab : Go.Proofs.YtmipaoobkjppdaaDoor.TabFnExactParseInstr.Tabs w) :
    Calls Tryd.prog 49 #[.agg #[.int .i64 a0_0, .int .i64 a0_1, .int .i64 a0_2, .int .i64 a0_3, .int .i64 a0_4, .string a0_5]] w fun e w' => e = .returned (.string r) ∧ Below w.heap.size w w' := by
  have hu27 := Tryd.underlying27
  have HB := Aside0.mk (Below.refl w.heap.size w)
  have HTAB := Aside0.mk htab
  clear htab
  unfold impl_formatInstr.f at h
  obtain ⟨o, AO0, h⟩ := Option.bind_eq_some_iff.mp h
  have AO := Aside0.mk AO0
  clear AO0
  by_cases c : (∀ x ∈ [a0_1, a0_2, a0_3, a0_4], -9223372036854775808 ≤ x ∧ x ≤ 9223372036854775807) ∧ (Go.Lib.join ((impl_formatInstr.W o a0_0 a0_1 a0_2 a0_3 a0_4 a0_5).map (·.data.toList)) [32]).length ≤ 140737488355328
  · rw [if_pos c] at h
    have HR := Aside0.mk (Option.some.inj h).symm
    have HF := Aside0.mk c.1
    have HJW := Aside0.mk c.2
    clear c h
    by_cases c4 : a0_0 = 4
    · have q4 : (a0_0 == 4) = true := by rw [c4]; rfl
      have q10 : (a0_0 == 10) = false := by rw [c4]; rfl
      have q5 : (a0_0 == 5) = false := by rw [c4]; rfl
      have q6 : (a0_0 == 6) = false := by rw [c4]; rfl
      have q7 : (a0_0 == 7) = false := by rw [c4]; rfl
      have HCS := Aside0.mk (show a0_0 = 4 ∧ True from ⟨c4, trivial⟩)
      clear c4
      go_enter Tryd.func49, Tryd.ntmps49
      go_wp2_with (first | ((with_reducible refine gate_dst (N := 1) rfl ?_); refine box_event ?hg1 (N := 1) ?hd1 (cs := #[.int .i64 a0_0, .int .i64 a0_1, .int .i64 a0_2, .int .i64 a0_3, .int .i64 a0_4, .string a0_5]) (t := 27) ?hr1 ?_; (case hd1 => rfl); (case hg1 => rfl); (case hr1 => first | (go_simp; done) | (go_simp; rfl)); intro gx hg w1 hbox hb; have n0_ := Aside0.mk (below_step (HB.out) hb); have n1_ := Aside0.mk (hbox); have n2_ := Aside0.mk ((by rw [hg]; exact below_size (HB.out) : w.heap.size ≤ gx)); clear HB; have HB := n0_; have BX := n1_; have GX := n2_; clear n0_ n1_ n2_; clear hb hbox hg; obtain ⟨h0_, h1_, h2_, h3_, h4_, h5_, f0_, f1_, f2_, f3_, f4_, f5_⟩ := impl_formatInstr.bx BX.out) | (go_at_call 10; (with_reducible refine (impl_OpName.calls a0_0 o _ AO.out ?tab10).mono ?_); (case tab10 => exact (HTAB.out).below (HB.out)); rintro e w2 ⟨rfl, hb⟩; have n0_ := Aside0.mk (blk_below BX.out hb); have n1_ := Aside0.mk (below_step (HB.out) hb); clear BX HB; have BX := n0_; have HB := n1_; clear n0_ n1_; clear hb; obtain ⟨h0_, h1_, h2_, h3_, h4_, h5_, f0_, f1_, f2_, f3_, f4_, f5_⟩ := impl_formatInstr.bx BX.out) | ((with_reducible refine gate_dst (N := 8) rfl ?_); refine Kd.R_lit Kd.string (w0 := w) w.heap.size 9 ?hg8 (N := 8) ?hd8 (xs := [o]) (inner := [.string o]) (ok := fun _ => True) (okp := fun _ => True) ?hr8 ?hp8 (fun _ hk => hk) trivial (HB.out) (below_size (HB.out)) (by simp) ?_; (case hd8 => rfl); (case hg8 => rfl); (case hr8 => first | (go_simp; done) | (go_simp; rfl)); (case hp8 => exact Kd.reps_scalar [o]); intro v8 w3 ho hb hg_ hnew_; obtain ⟨y8, hy8⟩ : ∃ y_, y_ = [o] := ⟨_, rfl⟩; rw [← hy8] at ho; have HY8 := Aside0.mk hy8; have HN8 := Aside0.mk (show y8.length ≤ 1 from by rw [hy8]; simp); obtain ⟨A8, c8, e8⟩ := Kd.R_slice ho; subst e8; have n0_ := Aside0.mk ((hg_.block gx (blk_lt BX.out) (by simp)).trans BX.out); have n1_ := Aside0.mk (hb); have n2_ := Aside0.mk (ho); clear BX HB; have BX := n0_; have HB := n1_; have HW := n2_; clear n0_ n1_ n2_; clear hb ho hg_ hnew_ hy8; obtain ⟨h0_, h1_, h2_, h3_, h4_, h5_, f0_, f1_, f2_, f3_, f4_, f5_⟩ := impl_formatInstr.bx BX.out) | ((with_reducible refine gate_dst (N := 3) rfl ?_); refine box_event ?hg3 (N := 3) ?hd3 (cs := #[.slice none 0 0]) (t := 62) ?hr3 ?_; (case hd3 => rfl); (case hg3 => rfl); (case hr3 => first | (go_simp; done) | (go_simp; rfl)); intro gW hg w4 hbox hb; have NE := Aside0.mk (show gx ≠ gW from by rw [hg]; exact Nat.ne_of_lt (blk_lt BX.out)); have GW := Aside0.mk (show w.heap.size ≤ gW from by rw [hg]; exact below_size (HB.out)); have n0_ := Aside0.mk (blk_below BX.out hb); have n1_ := Aside0.mk (Kd.R_below HW.out hb); have n2_ := Aside0.mk (below_step (HB.out) hb); have n3_ := Aside0.mk (hbox); clear BX HW HB; have BX := n0_; have HW := n1_; have HB := n2_; have BW := n3_; clear n0_ n1_ n2_ n3_; clear hb hbox hg; have hw_w4 : w4.cell? ⟨gW, 0, none⟩ = some (Value.slice none 0 0) := (blk_cell BW.out 0).trans rfl; have hwf_w4 := blk_frozen BW.out 0; obtain ⟨h0_, h1_, h2_, h3_, h4_, h5_, f0_, f1_, f2_, f3_, f4_, f5_⟩ := impl_formatInstr.bx BX.out) | ((with_reducible refine gate_store (t := 62) (p := 3) rfl ?_); refine store_event (t := 62) (p := 3) (v := ?vo3) (w1 := (w4.setCell ⟨gW, 0, none⟩ (.slice A8 y8.length c8))) ?hgs3 ?hos3 ?hns3 ?hrs3 ?_; (case hos3 => rfl); (case hgs3 => rfl); (case hns3 => rfl); (case hrs3 => first | (go_simp; done) | (go_simp; rfl)); intro ws3 hw; have n0_ := Aside0.mk (show Kd.R Kd.string 9 ws3 w.heap.size (fun _ => True) (.slice A8 y8.length c8) y8 from by rw [hw]; exact Kd.R_set HW.out BW.out (by decide) 0 _); have n1_ := Aside0.mk (show ws3.heap[gx]? = some (.cells #[.int .i64 a0_0, .int .i64 a0_1, .int .i64 a0_2, .int .i64 a0_3, .int .i64 a0_4, .string a0_5] 27 (0, 0)) from by rw [hw]; exact (Below.heap_setCell w4 ⟨gW, 0, none⟩ _ gx NE.out).trans BX.out); have n2_ := Aside0.mk (show ws3.heap[gW]? = some (.cells #[.slice A8 y8.length c8] 62 (0, 0)) from by rw [hw]; exact blk_put BW.out 0 _ rfl); have n3_ := Aside0.mk (show Below w.heap.size w ws3 from by rw [hw]; exact below_set HB.out GW.out); clear HW BX BW HB; have HW := n0_; have BX := n1_; have BW := n2_; have HB := n3_; clear n0_ n1_ n2_ n3_; clear hw; obtain ⟨h0_, h1_, h2_, h3_, h4_, h5_, f0_, f1_, f2_, f3_, f4_, f5_⟩ := impl_formatInstr.bx BX.out; have hw_ws3 : ws3.cell? ⟨gW, 0, none⟩ = some (Value.slice A8 y8.length c8) := (blk_cell BW.out 0).trans rfl; have hwf_ws3 := blk_frozen BW.out 0) | ((with_reducible refine gate_dst (N := 25) rfl ?_); refine Kd.R_lit (Kd.int .i64) _ 3 ?hg25 (N := 25) ?hd25 (xs := [a0_1]) (inner := [.int .i64 a0_1]) (ok := fun _ => True) (okp := fun _ => True) ?hr25 ?hp25 (fun _ hk => hk) trivial (Below.refl _ _) (Nat.le_refl _) (by simp) ?_; (case hd25 => rfl); (case hg25 => rfl); (case hr25 => first | (go_simp; done) | (go_simp; rfl)); (case hp25 => exact Kd.reps_scalar [a0_1]); intro v25 wl25 ho hb hg_ hnew_; obtain ⟨A25, c25, e25, hcl, hC⟩ := impl_formatInstr.lit ho (blk_lt BW.out) (Kd.R_lt HW.out); subst e25; have HC25 := Aside0.mk hC; have HCL25 := Aside0.mk hcl; clear hC hcl; have n0_ := Aside0.mk (blk_below BX.out hb); have n1_ := Aside0.mk (blk_below BW.out hb); have n2_ := Aside0.mk (Kd.R_below HW.out hb); have n3_ := Aside0.mk (below_step (HB.out) hb); clear BX BW HW HB; have BX := n0_; have BW := n1_; have HW := n2_; have HB := n3_; clear n0_ n1_ n2_ n3_; clear hb ho hg_ hnew_; obtain ⟨h0_, h1_, h2_, h3_, h4_, h5_, f0_, f1_, f2_, f3_, f4_, f5_⟩ := impl_formatInstr.bx BX.out; have hw_wl25 : wl25.cell? ⟨gW, 0, none⟩ = some (Value.slice A8 y8.length c8) := (blk_cell BW.out 0).trans rfl; have hwf_wl25 := blk_frozen BW.out 0) | (go_at_call 74; refine (impl_formatInstr_1.at gW (.slice A8 y8.length c8) y8 A25 c25 [a0_1] w _ (HB.out) BW.out GW.out HW.out HC25.out HCL25.out ?fit900 ?len900 HTAB.out).mono ?_; (case fit900 => intro x hx; simp only [List.mem_cons, List.not_mem_nil, or_false] at hx; obtain rfl := hx; exact HF.out _ (by simp)); (case len900 => (have := HN8.out; simp only [List.length_cons, List.length_nil]; omega)); rintro e wf900 ⟨rfl, v900, hbx, hr, hb, hk⟩; obtain ⟨y900, hy⟩ : ∃ y_, y_ = y8 ++ ([a0_1]).map impl_formatInstr_1.S := ⟨_, rfl⟩; rw [← hy] at hr; have HY900 := Aside0.mk hy; have HN900 := Aside0.mk (show y900.length ≤ 5 from by have := HN8.out; rw [hy, List.length_append, List.length_map]; simp only [List.length_cons, List.length_nil]; omega); obtain ⟨A900, c900, e900⟩ := Kd.R_slice hr; subst e900; have hne_ := Kd.R_ne HW.out BX.out (by decide); have n0_ := Aside0.mk (blk_kept BX.out hk (fun he => he.elim NE.out (fun h => hne_ h.symm))); have n1_ := Aside0.mk (hbx); have n2_ := Aside0.mk (hr); have n3_ := Aside0.mk (hb); clear BX BW HW HB; have BX := n0_; have BW := n1_; have HW := n2_; have HB := n3_; clear n0_ n1_ n2_ n3_; clear hbx hr hb hk hne_ hy; obtain ⟨h0_, h1_, h2_, h3_, h4_, h5_, f0_, f1_, f2_, f3_, f4_, f5_⟩ := impl_formatInstr.bx BX.out; have hw_wf900 : wf900.cell? ⟨gW, 0, none⟩ = some (Value.slice A900 y900.length c900) := (blk_cell BW.out 0).trans rfl; have hwf_wf900 := blk_frozen BW.out 0) | (go_at_call 76; have hyW : y900 = impl_formatInstr.W o a0_0 a0_1 a0_2 a0_3 a0_4 a0_5 := (by have HCT := HCS.out; unfold impl_formatInstr.W; rw [if_pos (by omega)]; rw [HY900.out, HY8.out]); have HP := Aside0.mk (show 0 < y900.length from by rw [HY900.out, HY8.out]; simp only [List.length_append, List.length_cons, List.length_nil]; omega); have HJ := Aside0.mk (show (Go.Lib.join (y900.map (·.data.toList)) [32]).length ≤ 140737488355328 from by rw [hyW]; exact HJW.out); have HYW := Aside0.mk hyW; clear hyW; refine (strings_Join.at _ y900 (HP.out) w.heap.size _ _ HW.out ?jn ?jl).mono ?_; (case jn => (have := HN900.out; omega)); (case jl => exact HJ.out); rintro e wj ⟨rfl, hb⟩; have n0_ := Aside0.mk (below_step (HB.out) hb); clear HB; have HB := n0_; clear n0_ hb))
      go_ret
      exact ⟨(show Ending.returned (.string (strings_Join.J y900)) = .returned (.string r) from by rw [HR.out, HYW.out]), HB.out⟩
    · skip
      by_cases c10 : a0_0 = 10
      · have q4 : (a0_0 == 4) = false := by rw [c10]; rfl
        have q10 : (a0_0 == 10) = true := by rw [c10]; rfl
        have q5 : (a0_0 == 5) = false := by rw [c10]; rfl
        have q6 : (a0_0 == 6) = false := by rw [c10]; rfl
        have q7 : (a0_0 == 7) = false := by rw [c10]; rfl
        have HCS := Aside0.mk (show a0_0 ≠ 4 ∧ a0_0 = 10 ∧ True from ⟨c4, c10, trivial⟩)
        clear c4 c10
        go_enter Tryd.func49, Tryd.ntmps49
        go_wp2_with (first | ((with_reducible refine gate_dst (N := 1) rfl ?_); refine box_event ?hg1 (N := 1) ?hd1 (cs := #[.int .i64 a0_0, .int .i64 a0_1, .int .i64 a0_2, .int .i64 a0_3, .int .i64 a0_4, .string a0_5]) (t := 27) ?hr1 ?_; (case hd1 => rfl); (case hg1 => rfl); (case hr1 => first | (go_simp; done) | (go_simp; rfl)); intro gx hg w1 hbox hb; have n0_ := Aside0.mk (below_step (HB.out) hb); have n1_ := Aside0.mk (hbox); have n2_ := Aside0.mk ((by rw [hg]; exact below_size (HB.out) : w.heap.size ≤ gx)); clear HB; have HB := n0_; have BX := n1_; have GX := n2_; clear n0_ n1_ n2_; clear hb hbox hg; obtain ⟨h0_, h1_, h2_, h3_, h4_, h5_, f0_, f1_, f2_, f3_, f4_, f5_⟩ := impl_formatInstr.bx BX.out) | (go_at_call 10; (with_reducible refine (impl_OpName.calls a0_0 o _ AO.out ?tab10).mono ?_); (case tab10 => exact (HTAB.out).below (HB.out)); rintro e w2 ⟨rfl, hb⟩; have n0_ := Aside0.mk (blk_below BX.out hb); have n1_ := Aside0.mk (below_step (HB.out) hb); clear BX HB; have BX := n0_; have HB := n1_; clear n0_ n1_; clear hb; obtain ⟨h0_, h1_, h2_, h3_, h4_, h5_, f0_, f1_, f2_, f3_, f4_, f5_⟩ := impl_formatInstr.bx BX.out) | ((with_reducible refine gate_dst (N := 8) rfl ?_); refine Kd.R_lit Kd.string (w0 := w) w.heap.size 9 ?hg8 (N := 8) ?hd8 (xs := [o]) (inner := [.string o]) (ok := fun _ => True) (okp := fun _ => True) ?hr8 ?hp8 (fun _ hk => hk) trivial (HB.out) (below_size (HB.out)) (by simp) ?_; (case hd8 => rfl); (case hg8 => rfl); (case hr8 => first | (go_simp; done) | (go_simp; rfl)); (case hp8 => exact Kd.reps_scalar [o]); intro v8 w3 ho hb hg_ hnew_; obtain ⟨y8, hy8⟩ : ∃ y_, y_ = [o] := ⟨_, rfl⟩; rw [← hy8] at ho; have HY8 := Aside0.mk hy8; have HN8 := Aside0.mk (show y8.length ≤ 1 from by rw [hy8]; simp); obtain ⟨A8, c8, e8⟩ := Kd.R_slice ho; subst e8; have n0_ := Aside0.mk ((hg_.block gx (blk_lt BX.out) (by simp)).trans BX.out); have n1_ := Aside0.mk (hb); have n2_ := Aside0.mk (ho); clear BX HB; have BX := n0_; have HB := n1_; have HW := n2_; clear n0_ n1_ n2_; clear hb ho hg_ hnew_ hy8; obtain ⟨h0_, h1_, h2_, h3_, h4_, h5_, f0_, f1_, f2_, f3_, f4_, f5_⟩ := impl_formatInstr.bx BX.out) | ((with_reducible refine gate_dst (N := 3) rfl ?_); refine box_event ?hg3 (N := 3) ?hd3 (cs := #[.slice none 0 0]) (t := 62) ?hr3 ?_; (case hd3 => rfl); (case hg3 => rfl); (case hr3 => first | (go_simp; done) | (go_simp; rfl)); intro gW hg w4 hbox hb; have NE := Aside0.mk (show gx ≠ gW from by rw [hg]; exact Nat.ne_of_lt (blk_lt BX.out)); have GW := Aside0.mk (show w.heap.size ≤ gW from by rw [hg]; exact below_size (HB.out)); have n0_ := Aside0.mk (blk_below BX.out hb); have n1_ := Aside0.mk (Kd.R_below HW.out hb); have n2_ := Aside0.mk (below_step (HB.out) hb); have n3_ := Aside0.mk (hbox); clear BX HW HB; have BX := n0_; have HW := n1_; have HB := n2_; have BW := n3_; clear n0_ n1_ n2_ n3_; clear hb hbox hg; have hw_w4 : w4.cell? ⟨gW, 0, none⟩ = some (Value.slice none 0 0) := (blk_cell BW.out 0).trans rfl; have hwf_w4 := blk_frozen BW.out 0; obtain ⟨h0_, h1_, h2_, h3_, h4_, h5_, f0_, f1_, f2_, f3_, f4_, f5_⟩ := impl_formatInstr.bx BX.out) | ((with_reducible refine gate_store (t := 62) (p := 3) rfl ?_); refine store_event (t := 62) (p := 3) (v := ?vo3) (w1 := (w4.setCell ⟨gW, 0, none⟩ (.slice A8 y8.length c8))) ?hgs3 ?hos3 ?hns3 ?hrs3 ?_; (case hos3 => rfl); (case hgs3 => rfl); (case hns3 => rfl); (case hrs3 => first | (go_simp; done) | (go_simp; rfl)); intro ws3 hw; have n0_ := Aside0.mk (show Kd.R Kd.string 9 ws3 w.heap.size (fun _ => True) (.slice A8 y8.length c8) y8 from by rw [hw]; exact Kd.R_set HW.out BW.out (by decide) 0 _); have n1_ := Aside0.mk (show ws3.heap[gx]? = some (.cells #[.int .i64 a0_0, .int .i64 a0_1, .int .i64 a0_2, .int .i64 a0_3, .int .i64 a0_4, .string a0_5] 27 (0, 0)) from by rw [hw]; exact (Below.heap_setCell w4 ⟨gW, 0, none⟩ _ gx NE.out).trans BX.out); have n2_ := Aside0.mk (show ws3.heap[gW]? = some (.cells #[.slice A8 y8.length c8] 62 (0, 0)) from by rw [hw]; exact blk_put BW.out 0 _ rfl); have n3_ := Aside0.mk (show Below w.heap.size w ws3 from by rw [hw]; exact below_set HB.out GW.out); clear HW BX BW HB; have HW := n0_; have BX := n1_; have BW := n2_; have HB := n3_; clear n0_ n1_ n2_ n3_; clear hw; obtain ⟨h0_, h1_, h2_, h3_, h4_, h5_, f0_, f1_, f2_, f3_, f4_, f5_⟩ := impl_formatInstr.bx BX.out; have hw_ws3 : ws3.cell? ⟨gW, 0, none⟩ = some (Value.slice A8 y8.length c8) := (blk_cell BW.out 0).trans rfl; have hwf_ws3 := blk_frozen BW.out 0) | ((with_reducible refine gate_dst (N := 25) rfl ?_); refine Kd.R_lit (Kd.int .i64) _ 3 ?hg25 (N := 25) ?hd25 (xs := [a0_1]) (inner := [.int .i64 a0_1]) (ok := fun _ => True) (okp := fun _ => True) ?hr25 ?hp25 (fun _ hk => hk) trivial (Below.refl _ _) (Nat.le_refl _) (by simp) ?_; (case hd25 => rfl); (case hg25 => rfl); (case hr25 => first | (go_simp; done) | (go_simp; rfl)); (case hp25 => exact Kd.reps_scalar [a0_1]); intro v25 wl25 ho hb hg_ hnew_; obtain ⟨A25, c25, e25, hcl, hC⟩ := impl_formatInstr.lit ho (blk_lt BW.out) (Kd.R_lt HW.out); subst e25; have HC25 := Aside0.mk hC; have HCL25 := Aside0.mk hcl; clear hC hcl; have n0_ := Aside0.mk (blk_below BX.out hb); have n1_ := Aside0.mk (blk_below BW.out hb); have n2_ := Aside0.mk (Kd.R_below HW.out hb); have n3_ := Aside0.mk (below_step (HB.out) hb); clear BX BW HW HB; have BX := n0_; have BW := n1_; have HW := n2_; have HB := n3_; clear n0_ n1_ n2_ n3_; clear hb ho hg_ hnew_; obtain ⟨h0_, h1_, h2_, h3_, h4_, h5_, f0_, f1_, f2_, f3_, f4_, f5_⟩ := impl_formatInstr.bx BX.out; have hw_wl25 : wl25.cell? ⟨gW, 0, none⟩ = some (Value.slice A8 y8.length c8) := (blk_cell BW.out 0).trans rfl; have hwf_wl25 := blk_frozen BW.out 0) | (go_at_call 74; refine (impl_formatInstr_1.at gW (.slice A8 y8.length c8) y8 A25 c25 [a0_1] w _ (HB.out) BW.out GW.out HW.out HC25.out HCL25.out ?fit900 ?len900 HTAB.out).mono ?_; (case fit900 => intro x hx; simp only [List.mem_cons, List.not_mem_nil, or_false] at hx; obtain rfl := hx; exact HF.out _ (by simp)); (case len900 => (have := HN8.out; simp only [List.length_cons, List.length_nil]; omega)); rintro e wf900 ⟨rfl, v900, hbx, hr, hb, hk⟩; obtain ⟨y900, hy⟩ : ∃ y_, y_ = y8 ++ ([a0_1]).map impl_formatInstr_1.S := ⟨_, rfl⟩; rw [← hy] at hr; have HY900 := Aside0.mk hy; have HN900 := Aside0.mk (show y900.length ≤ 5 from by have := HN8.out; rw [hy, List.length_append, List.length_map]; simp only [List.length_cons, List.length_nil]; omega); obtain ⟨A900, c900, e900⟩ := Kd.R_slice hr; subst e900; have hne_ := Kd.R_ne HW.out BX.out (by decide); have n0_ := Aside0.mk (blk_kept BX.out hk (fun he => he.elim NE.out (fun h => hne_ h.symm))); have n1_ := Aside0.mk (hbx); have n2_ := Aside0.mk (hr); have n3_ := Aside0.mk (hb); clear BX BW HW HB; have BX := n0_; have BW := n1_; have HW := n2_; have HB := n3_; clear n0_ n1_ n2_ n3_; clear hbx hr hb hk hne_ hy; obtain ⟨h0_, h1_, h2_, h3_, h4_, h5_, f0_, f1_, f2_, f3_, f4_, f5_⟩ := impl_formatInstr.bx BX.out; have hw_wf900 : wf900.cell? ⟨gW, 0, none⟩ = some (Value.slice A900 y900.length c900) := (blk_cell BW.out 0).trans rfl; have hwf_wf900 := blk_frozen BW.out 0) | (go_at_call 76; have hyW : y900 = impl_formatInstr.W o a0_0 a0_1 a0_2 a0_3 a0_4 a0_5 := (by have HCT := HCS.out; unfold impl_formatInstr.W; rw [if_pos (by omega)]; rw [HY900.out, HY8.out]); have HP := Aside0.mk (show 0 < y900.length from by rw [HY900.out, HY8.out]; simp only [List.length_append, List.length_cons, List.length_nil]; omega); have HJ := Aside0.mk (show (Go.Lib.join (y900.map (·.data.toList)) [32]).length ≤ 140737488355328 from by rw [hyW]; exact HJW.out); have HYW := Aside0.mk hyW; clear hyW; refine (strings_Join.at _ y900 (HP.out) w.heap.size _ _ HW.out ?jn ?jl).mono ?_; (case jn => (have := HN900.out; omega)); (case jl => exact HJ.out); rintro e wj ⟨rfl, hb⟩; have n0_ := Aside0.mk (below_step (HB.out) hb); clear HB; have HB := n0_; clear n0_ hb))
        go_ret
        exact ⟨(show Ending.returned (.string (strings_Join.J y900)) = .returned (.string r) from by rw [HR.out, HYW.out]), HB.out⟩
      · skip
        by_cases c5 : a0_0 = 5
        · have q4 : (a0_0 == 4) = false := by rw [c5]; rfl
          have q10 : (a0_0 == 10) = false := by rw [c5]; rfl
          have q5 : (a0_0 == 5) = true := by rw [c5]; rfl
          have q6 : (a0_0 == 6) = false := by rw [c5]; rfl
          have q7 : (a0_0 == 7) = false := by rw [c5]; rfl
          have HCS := Aside0.mk (show a0_0 ≠ 4 ∧ a0_0 ≠ 10 ∧ a0_0 = 5 ∧ True from ⟨c4, c10, c5, trivial⟩)
          clear c4 c10 c5
          go_enter Tryd.func49, Tryd.ntmps49
          go_wp2_with (first | ((with_reducible refine gate_dst (N := 1) rfl ?_); refine box_event ?hg1 (N := 1) ?hd1 (cs := #[.int .i64 a0_0, .int .i64 a0_1, .int .i64 a0_2, .int .i64 a0_3, .int .i64 a0_4, .string a0_5]) (t := 27) ?hr1 ?_; (case hd1 => rfl); (case hg1 => rfl); (case hr1 => first | (go_simp; done) | (go_simp; rfl)); intro gx hg w1 hbox hb; have n0_ := Aside0.mk (below_step (HB.out) hb); have n1_ := Aside0.mk (hbox); have n2_ := Aside0.mk ((by rw [hg]; exact below_size (HB.out) : w.heap.size ≤ gx)); clear HB; have HB := n0_; have BX := n1_; have GX := n2_; clear n0_ n1_ n2_; clear hb hbox hg; obtain ⟨h0_, h1_, h2_, h3_, h4_, h5_, f0_, f1_, f2_, f3_, f4_, f5_⟩ := impl_formatInstr.bx BX.out) | (go_at_call 10; (with_reducible refine (impl_OpName.calls a0_0 o _ AO.out ?tab10).mono ?_); (case tab10 => exact (HTAB.out).below (HB.out)); rintro e w2 ⟨rfl, hb⟩; have n0_ := Aside0.mk (blk_below BX.out hb); have n1_ := Aside0.mk (below_step (HB.out) hb); clear BX HB; have BX := n0_; have HB := n1_; clear n0_ n1_; clear hb; obtain ⟨h0_, h1_, h2_, h3_, h4_, h5_, f0_, f1_, f2_, f3_, f4_, f5_⟩ := impl_formatInstr.bx BX.out) | ((with_reducible refine gate_dst (N := 8) rfl ?_); refine Kd.R_lit Kd.string (w0 := w) w.heap.size 9 ?hg8 (N := 8) ?hd8 (xs := [o]) (inner := [.string o]) (ok := fun _ => True) (okp := fun _ => True) ?hr8 ?hp8 (fun _ hk => hk) trivial (HB.out) (below_size (HB.out)) (by simp) ?_; (case hd8 => rfl); (case hg8 => rfl); (case hr8 => first | (go_simp; done) | (go_simp; rfl)); (case hp8 => exact Kd.reps_scalar [o]); intro v8 w3 ho hb hg_ hnew_; obtain ⟨y8, hy8⟩ : ∃ y_, y_ = [o] := ⟨_, rfl⟩; rw [← hy8] at ho; have HY8 := Aside0.mk hy8; have HN8 := Aside0.mk (show y8.length ≤ 1 from by rw [hy8]; simp); obtain ⟨A8, c8, e8⟩ := Kd.R_slice ho; subst e8; have n0_ := Aside0.mk ((hg_.block gx (blk_lt BX.out) (by simp)).trans BX.out); have n1_ := Aside0.mk (hb); have n2_ := Aside0.mk (ho); clear BX HB; have BX := n0_; have HB := n1_; have HW := n2_; clear n0_ n1_ n2_; clear hb ho hg_ hnew_ hy8; obtain ⟨h0_, h1_, h2_, h3_, h4_, h5_, f0_, f1_, f2_, f3_, f4_, f5_⟩ := impl_formatInstr.bx BX.out) | ((with_reducible refine gate_dst (N := 3) rfl ?_); refine box_event ?hg3 (N := 3) ?hd3 (cs := #[.slice none 0 0]) (t := 62) ?hr3 ?_; (case hd3 => rfl); (case hg3 => rfl); (case hr3 => first | (go_simp; done) | (go_simp; rfl)); intro gW hg w4 hbox hb; have NE := Aside0.mk (show gx ≠ gW from by rw [hg]; exact Nat.ne_of_lt (blk_lt BX.out)); have GW := Aside0.mk (show w.heap.size ≤ gW from by rw [hg]; exact below_size (HB.out)); have n0_ := Aside0.mk (blk_below BX.out hb); have n1_ := Aside0.mk (Kd.R_below HW.out hb); have n2_ := Aside0.mk (below_step (HB.out) hb); have n3_ := Aside0.mk (hbox); clear BX HW HB; have BX := n0_; have HW := n1_; have HB := n2_; have BW := n3_; clear n0_ n1_ n2_ n3_; clear hb hbox hg; have hw_w4 : w4.cell? ⟨gW, 0, none⟩ = some (Value.slice none 0 0) := (blk_cell BW.out 0).trans rfl; have hwf_w4 := blk_frozen BW.out 0; obtain ⟨h0_, h1_, h2_, h3_, h4_, h5_, f0_, f1_, f2_, f3_, f4_, f5_⟩ := impl_formatInstr.bx BX.out) | ((with_reducible refine gate_store (t := 62) (p := 3) rfl ?_); refine store_event (t := 62) (p := 3) (v := ?vo3) (w1 := (w4.setCell ⟨gW, 0, none⟩ (.slice A8 y8.length c8))) ?hgs3 ?hos3 ?hns3 ?hrs3 ?_; (case hos3 => rfl); (case hgs3 => rfl); (case hns3 => rfl); (case hrs3 => first | (go_simp; done) | (go_simp; rfl)); intro ws3 hw; have n0_ := Aside0.mk (show Kd.R Kd.string 9 ws3 w.heap.size (fun _ => True) (.slice A8 y8.length c8) y8 from by rw [hw]; exact Kd.R_set HW.out BW.out (by decide) 0 _); have n1_ := Aside0.mk (show ws3.heap[gx]? = some (.cells #[.int .i64 a0_0, .int .i64 a0_1, .int .i64 a0_2, .int .i64 a0_3, .int .i64 a0_4, .string a0_5] 27 (0, 0)) from by rw [hw]; exact (Below.heap_setCell w4 ⟨gW, 0, none⟩ _ gx NE.out).trans BX.out); have n2_ := Aside0.mk (show ws3.heap[gW]? = some (.cells #[.slice A8 y8.length c8] 62 (0, 0)) from by rw [hw]; exact blk_put BW.out 0 _ rfl); have n3_ := Aside0.mk (show Below w.heap.size w ws3 from by rw [hw]; exact below_set HB.out GW.out); clear HW BX BW HB; have HW := n0_; have BX := n1_; have BW := n2_; have HB := n3_; clear n0_ n1_ n2_ n3_; clear hw; obtain ⟨h0_, h1_, h2_, h3_, h4_, h5_, f0_, f1_, f2_, f3_, f4_, f5_⟩ := impl_formatInstr.bx BX.out; have hw_ws3 : ws3.cell? ⟨gW, 0, none⟩ = some (Value.slice A8 y8.length c8) := (blk_cell BW.out 0).trans rfl; have hwf_ws3 := blk_frozen BW.out 0) | ((with_reducible refine gate_dst (N := 36) rfl ?_); refine Kd.R_lit (Kd.int .i64) _ 3 ?hg36 (N := 36) ?hd36 (xs := [a0_1, a0_2, a0_3]) (inner := [.int .i64 a0_1, .int .i64 a0_2, .int .i64 a0_3]) (ok := fun _ => True) (okp := fun _ => True) ?hr36 ?hp36 (fun _ hk => hk) trivial (Below.refl _ _) (Nat.le_refl _) (by simp) ?_; (case hd36 => rfl); (case hg36 => rfl); (case hr36 => first | (go_simp; done) | (go_simp; rfl)); (case hp36 => exact Kd.reps_scalar [a0_1, a0_2, a0_3]); intro v36 wl36 ho hb hg_ hnew_; obtain ⟨A36, c36, e36, hcl, hC⟩ := impl_formatInstr.lit ho (blk_lt BW.out) (Kd.R_lt HW.out); subst e36; have HC36 := Aside0.mk hC; have HCL36 := Aside0.mk hcl; clear hC hcl; have n0_ := Aside0.mk (blk_below BX.out hb); have n1_ := Aside0.mk (blk_below BW.out hb); have n2_ := Aside0.mk (Kd.R_below HW.out hb); have n3_ := Aside0.mk (below_step (HB.out) hb); clear BX BW HW HB; have BX := n0_; have BW := n1_; have HW := n2_; have HB := n3_; clear n0_ n1_ n2_ n3_; clear hb ho hg_ hnew_; obtain ⟨h0_, h1_, h2_, h3_, h4_, h5_, f0_, f1_, f2_, f3_, f4_, f5_⟩ := impl_formatInstr.bx BX.out; have hw_wl36 : wl36.cell? ⟨gW, 0, none⟩ = some (Value.slice A8 y8.length c8) := (blk_cell BW.out 0).trans rfl; have hwf_wl36 := blk_frozen BW.out 0) | (go_at_call 74; refine (impl_formatInstr_1.at gW (.slice A8 y8.length c8) y8 A36 c36 [a0_1, a0_2, a0_3] w _ (HB.out) BW.out GW.out HW.out HC36.out HCL36.out ?fit900 ?len900 HTAB.out).mono ?_; (case fit900 => intro x hx; simp only [List.mem_cons, List.not_mem_nil, or_false] at hx; rcases hx with rfl | rfl | rfl <;> exact HF.out _ (by simp)); (case len900 => (have := HN8.out; simp only [List.length_cons, List.length_nil]; omega)); rintro e wf900 ⟨rfl, v900, hbx, hr, hb, hk⟩; obtain ⟨y900, hy⟩ : ∃ y_, y_ = y8 ++ ([a0_1, a0_2, a0_3]).map impl_formatInstr_1.S := ⟨_, rfl⟩; rw [← hy] at hr; have HY900 := Aside0.mk hy; have HN900 := Aside0.mk (show y900.length ≤ 5 from by have := HN8.out; rw [hy, List.length_append, List.length_map]; simp only [List.length_cons, List.length_nil]; omega); obtain ⟨A900, c900, e900⟩ := Kd.R_slice hr; subst e900; have hne_ := Kd.R_ne HW.out BX.out (by decide); have n0_ := Aside0.mk (blk_kept BX.out hk (fun he => he.elim NE.out (fun h => hne_ h.symm))); have n1_ := Aside0.mk (hbx); have n2_ := Aside0.mk (hr); have n3_ := Aside0.mk (hb); clear BX BW HW HB; have BX := n0_; have BW := n1_; have HW := n2_; have HB := n3_; clear n0_ n1_ n2_ n3_; clear hbx hr hb hk hne_ hy; obtain ⟨h0_, h1_, h2_, h3_, h4_, h5_, f0_, f1_, f2_, f3_, f4_, f5_⟩ := impl_formatInstr.bx BX.out; have hw_wf900 : wf900.cell? ⟨gW, 0, none⟩ = some (Value.slice A900 y900.length c900) := (blk_cell BW.out 0).trans rfl; have hwf_wf900 := blk_frozen BW.out 0) | (go_at_call 76; have hyW : y900 = impl_formatInstr.W o a0_0 a0_1 a0_2 a0_3 a0_4 a0_5 := (by have HCT := HCS.out; unfold impl_formatInstr.W; rw [if_neg (by omega), if_pos (by omega)]; rw [HY900.out, HY8.out]); have HP := Aside0.mk (show 0 < y900.length from by rw [HY900.out, HY8.out]; simp only [List.length_append, List.length_cons, List.length_nil]; omega); have HJ := Aside0.mk (show (Go.Lib.join (y900.map (·.data.toList)) [32]).length ≤ 140737488355328 from by rw [hyW]; exact HJW.out); have HYW := Aside0.mk hyW; clear hyW; refine (strings_Join.at _ y900 (HP.out) w.heap.size _ _ HW.out ?jn ?jl).mono ?_; (case jn => (have := HN900.out; omega)); (case jl => exact HJ.out); rintro e wj ⟨rfl, hb⟩; have n0_ := Aside0.mk (below_step (HB.out) hb); clear HB; have HB := n0_; clear n0_ hb))
          go_ret
          exact ⟨(show Ending.returned (.string (strings_Join.J y900)) = .returned (.string r) from by rw [HR.out, HYW.out]), HB.out⟩
        · skip
          by_cases c6 : a0_0 = 6
          · have q4 : (a0_0 == 4) = false := by rw [c6]; rfl
            have q10 : (a0_0 == 10) = false := by rw [c6]; rfl
            have q5 : (a0_0 == 5) = false := by rw [c6]; rfl
            have q6 : (a0_0 == 6) = true := by rw [c6]; rfl
            have q7 : (a0_0 == 7) = false := by rw [c6]; rfl
            have HCS := Aside0.mk (show a0_0 ≠ 4 ∧ a0_0 ≠ 10 ∧ a0_0 ≠ 5 ∧ a0_0 = 6 ∧ True from ⟨c4, c10, c5, c6, trivial⟩)
            clear c4 c10 c5 c6
            go_enter Tryd.func49, Tryd.ntmps49
            go_wp2_with (first | (go_at_call 74; refine (impl_formatInstr_1.at gW (.slice A51 y51.length c51) y51 A58 c58 (impl_some.L a0_3 a0_4) w _ (HB.out) BW.out GW.out HW.out HC58.out HCL58.out ?fit901 ?len901 HTAB.out).mono ?_; (case fit901 => intro x hx; have hx := (List.mem_filter.mp hx).1; simp only [List.mem_cons, List.not_mem_nil, or_false] at hx; rcases hx with rfl | rfl <;> exact HF.out _ (by simp)); (case len901 => (have := HN51.out; have hL_ := impl_some.len a0_3 a0_4; omega)); rintro e wf901 ⟨rfl, v901, hbx, hr, hb, hk⟩; obtain ⟨y901, hy⟩ : ∃ y_, y_ = y51 ++ ((impl_some.L a0_3 a0_4)).map impl_formatInstr_1.S := ⟨_, rfl⟩; rw [← hy] at hr; have HY901 := Aside0.mk hy; have HN901 := Aside0.mk (show y901.length ≤ 9 from by have := HN51.out; rw [hy, List.length_append, List.length_map]; have hL_ := impl_some.len a0_3 a0_4; omega); obtain ⟨A901, c901, e901⟩ := Kd.R_slice hr; subst e901; have hne_ := Kd.R_ne HW.out BX.out (by decide); have n0_ := Aside0.mk (blk_kept BX.out hk (fun he => he.elim NE.out (fun h => hne_ h.symm))); have n1_ := Aside0.mk (hbx); have n2_ := Aside0.mk (hr); have n3_ := Aside0.mk (hb); clear BX BW HW HB; have BX := n0_; have BW := n1_; have HW := n2_; have HB := n3_; clear n0_ n1_ n2_ n3_; clear hbx hr hb hk hne_ hy; obtain ⟨h0_, h1_, h2_, h3_, h4_, h5_, f0_, f1_, f2_, f3_, f4_, f5_⟩ := impl_formatInstr.bx BX.out; have hw_wf901 : wf901.cell? ⟨gW, 0, none⟩ = some (Value.slice A901 y901.length c901) := (blk_cell BW.out 0).trans rfl; have hwf_wf901 := blk_frozen BW.out 0) | ((with_reducible refine gate_dst (N := 45) rfl ?_); refine Kd.R_lit (Kd.int .i64) _ 3 ?hg45 (N := 45) ?hd45 (xs := [a0_1, a0_2]) (inner := [.int .i64 a0_1, .int .i64 a0_2]) (ok := fun _ => True) (okp := fun _ => True) ?hr45 ?hp45 (fun _ hk => hk) trivial (Below.refl _ _) (Nat.le_refl _) (by simp) ?_; (case hd45 => rfl); (case hg45 => rfl); (case hr45 => first | (go_simp; done) | (go_simp; rfl)); (case hp45 => exact Kd.reps_scalar [a0_1, a0_2]); intro v45 wl45 ho hb hg_ hnew_; obtain ⟨A45, c45, e45, hcl, hC⟩ := impl_formatInstr.lit ho (blk_lt BW.out) (Kd.R_lt HW.out); subst e45; have HC45 := Aside0.mk hC; have HCL45 := Aside0.mk hcl; clear hC hcl; have n0_ := Aside0.mk (blk_below BX.out hb); have n1_ := Aside0.mk (blk_below BW.out hb); have n2_ := Aside0.mk (Kd.R_below HW.out hb); have n3_ := Aside0.mk (below_step (HB.out) hb); clear BX BW HW HB; have BX := n0_; have BW := n1_; have HW := n2_; have HB := n3_; clear n0_ n1_ n2_ n3_; clear hb ho hg_ hnew_; obtain ⟨h0_, h1_, h2_, h3_, h4_, h5_, f0_, f1_, f2_, f3_, f4_, f5_⟩ := impl_formatInstr.bx BX.out; have hw_wl45 : wl45.cell? ⟨gW, 0, none⟩ = some (Value.slice A8 y8.length c8) := (blk_cell BW.out 0).trans rfl; have hwf_wl45 := blk_frozen BW.out 0) | (go_at_call 74; refine (impl_formatInstr_1.at gW (.slice A8 y8.length c8) y8 A45 c45 [a0_1, a0_2] w _ (HB.out) BW.out GW.out HW.out HC45.out HCL45.out ?fit900 ?len900 HTAB.out).mono ?_; (case fit900 => intro x hx; simp only [List.mem_cons, List.not_mem_nil, or_false] at hx; rcases hx with rfl | rfl <;> exact HF.out _ (by simp)); (case len900 => (have := HN8.out; simp only [List.length_cons, List.length_nil]; omega)); rintro e wf900 ⟨rfl, v900, hbx, hr, hb, hk⟩; obtain ⟨y900, hy⟩ : ∃ y_, y_ = y8 ++ ([a0_1, a0_2]).map impl_formatInstr_1.S := ⟨_, rfl⟩; rw [← hy] at hr; have HY900 := Aside0.mk hy; have HN900 := Aside0.mk (show y900.length ≤ 5 from by have := HN8.out; rw [hy, List.length_append, List.length_map]; simp only [List.length_cons, List.length_nil]; omega); obtain ⟨A900, c900, e900⟩ := Kd.R_slice hr; subst e900; have hne_ := Kd.R_ne HW.out BX.out (by decide); have n0_ := Aside0.mk (blk_kept BX.out hk (fun he => he.elim NE.out (fun h => hne_ h.symm))); have n1_ := Aside0.mk (hbx); have n2_ := Aside0.mk (hr); have n3_ := Aside0.mk (hb); clear BX BW HW HB; have BX := n0_; have BW := n1_; have HW := n2_; have HB := n3_; clear n0_ n1_ n2_ n3_; clear hbx hr hb hk hne_ hy; obtain ⟨h0_, h1_, h2_, h3_, h4_, h5_, f0_, f1_, f2_, f3_, f4_, f5_⟩ := impl_formatInstr.bx BX.out; have hw_wf900 : wf900.cell? ⟨gW, 0, none⟩ = some (Value.slice A900 y900.length c900) := (blk_cell BW.out 0).trans rfl; have hwf_wf900 := blk_frozen BW.out 0) | ((with_reducible refine gate_dst (N := 50) rfl ?_); refine Kd.R_lit Kd.string _ 9 ?hg50 (N := 50) ?hd50 (xs := [a0_5]) (inner := [.string a0_5]) (ok := fun _ => True) (okp := fun _ => True) ?hr50 ?hp50 (fun _ hk => hk) trivial (Below.refl _ _) (Nat.le_refl _) (by simp) ?_; (case hd50 => rfl); (case hg50 => rfl); (case hr50 => first | (go_simp; done) | (go_simp; rfl)); (case hp50 => exact Kd.reps_scalar [a0_5]); intro v50 wl50 ho hb hg_ hnew_; obtain ⟨A50, c50, e50, hcl, hC⟩ := Kd.R_reads ho; subst e50; have HC50 := Aside0.mk hC; clear hC hcl; have n0_ := Aside0.mk (blk_below BX.out hb); have n1_ := Aside0.mk (blk_below BW.out hb); have n2_ := Aside0.mk (Kd.R_below HW.out hb); have n3_ := Aside0.mk (below_step (HB.out) hb); clear BX BW HW HB; have BX := n0_; have BW := n1_; have HW := n2_; have HB := n3_; clear n0_ n1_ n2_ n3_; clear hb ho hg_ hnew_; obtain ⟨h0_, h1_, h2_, h3_, h4_, h5_, f0_, f1_, f2_, f3_, f4_, f5_⟩ := impl_formatInstr.bx BX.out; have hw_wl50 : wl50.cell? ⟨gW, 0, none⟩ = some (Value.slice A900 y900.length c900) := (blk_cell BW.out 0).trans rfl; have hwf_wl50 := blk_frozen BW.out 0) | ((with_reducible refine gate_builtin (b := .append) (xs := #[.tmp 47, .tmp 50]) rfl ?_); at_builtin; refine Kd.R_append_row Value.string ByteArray.empty (h1 := fun _ => rfl) (w0 := w) w.heap.size rfl (.tmp 47) (.tmp 50) 62 9 (.string ⟨#[]⟩) 16 rfl Tryd.underlying62 info9 rfl (by decide) (.slice A900 y900.length c900) y900 [a0_5] A50 [a0_5].length c50 (fun _ => True) rfl rfl (fun _ _ => trivial) HW.out HC50.out (HB.out) (below_size (HB.out)) ?aL51 ?_; (case aL51 => (have hl_ := HN900.out; simp only [List.length_singleton]; omega)); intro v51 wa51 ho hb hg hat; obtain ⟨y51, hy⟩ : ∃ y_, y_ = y900 ++ [a0_5] := ⟨_, rfl⟩; rw [← hy] at ho; have HY51 := Aside0.mk hy; have HN51 := Aside0.mk (show y51.length ≤ 6 from by have := HN900.out; rw [hy, List.length_append]; simp only [List.length_cons, List.length_nil]; omega); obtain ⟨A51, c51, e51⟩ := Kd.R_slice ho; subst e51; have hnx_ := Kd.R_ne HW.out BX.out (by decide); have hnw_ := Kd.R_ne HW.out BW.out (by decide); have n0_ := Aside0.mk ((hg.block gx (blk_lt BX.out) hnx_).trans BX.out); have n1_ := Aside0.mk ((hg.block gW (blk_lt BW.out) hnw_).trans BW.out); have n2_ := Aside0.mk (ho); have n3_ := Aside0.mk (hb); clear BX BW HW HB; have BX := n0_; have BW := n1_; have HW := n2_; have HB := n3_; clear n0_ n1_ n2_ n3_; clear ho hb hg hat hnx_ hnw_ hy; obtain ⟨h0_, h1_, h2_, h3_, h4_, h5_, f0_, f1_, f2_, f3_, f4_, f5_⟩ := impl_formatInstr.bx BX.out; have hw_wa51 : wa51.cell? ⟨gW, 0, none⟩ = some (Value.slice A900 y900.length c900) := (blk_cell BW.out 0).trans rfl; have hwf_wa51 := blk_frozen BW.out 0) | ((with_reducible refine gate_store (t := 62) (p := 3) rfl ?_); refine store_event (t := 62) (p := 3) (v := ?vo51) (w1 := (wa51.setCell ⟨gW, 0, none⟩ (.slice A51 y51.length c51))) ?hgs51 ?hos51 ?hns51 ?hrs51 ?_; (case hos51 => rfl); (case hgs51 => rfl); (case hns51 => rfl); (case hrs51 => first | (go_simp; done) | (go_simp; rfl)); intro ws51 hw; have n0_ := Aside0.mk (show Kd.R Kd.string 9 ws51 w.heap.size (fun _ => True) (.slice A51 y51.length c51) y51 from by rw [hw]; exact Kd.R_set HW.out BW.out (by decide) 0 _); have n1_ := Aside0.mk (show ws51.heap[gx]? = some (.cells #[.int .i64 a0_0, .int .i64 a0_1, .int .i64 a0_2, .int .i64 a0_3, .int .i64 a0_4, .string a0_5] 27 (0, 0)) from by rw [hw]; exact (Below.heap_setCell wa51 ⟨gW, 0, none⟩ _ gx NE.out).trans BX.out); have n2_ := Aside0.mk (show ws51.heap[gW]? = some (.cells #[.slice A51 y51.length c51] 62 (0, 0)) from by rw [hw]; exact blk_put BW.out 0 _ rfl); have n3_ := Aside0.mk (show Below w.heap.size w ws51 from by rw [hw]; exact below_set HB.out GW.out); clear HW BX BW HB; have HW := n0_; have BX := n1_; have BW := n2_; have HB := n3_; clear n0_ n1_ n2_ n3_; clear hw; obtain ⟨h0_, h1_, h2_, h3_, h4_, h5_, f0_, f1_, f2_, f3_, f4_, f5_⟩ := impl_formatInstr.bx BX.out; have hw_ws51 : ws51.cell? ⟨gW, 0, none⟩ = some (Value.slice A51 y51.length c51) := (blk_cell BW.out 0).trans rfl; have hwf_ws51 := blk_frozen BW.out 0) | ((with_reducible refine gate_dst (N := 57) rfl ?_); refine Kd.R_lit (Kd.int .i64) _ 3 ?hg57 (N := 57) ?hd57 (xs := [a0_3, a0_4]) (inner := [.int .i64 a0_3, .int .i64 a0_4]) (ok := fun _ => True) (okp := fun _ => True) ?hr57 ?hp57 (fun _ hk => hk) trivial (Below.refl _ _) (Nat.le_refl _) (by simp) ?_; (case hd57 => rfl); (case hg57 => rfl); (case hr57 => first | (go_simp; done) | (go_simp; rfl)); (case hp57 => exact Kd.reps_scalar [a0_3, a0_4]); intro v57 wl57 ho hb hg_ hnew_; obtain ⟨A57, c57, e57⟩ := Kd.R_slice ho; subst e57; have HO57 := Aside0.mk ho; have HLT57 := Aside0.mk (blk_lt BW.out); have HLX57 := Aside0.mk (blk_lt BX.out); have HLV57 := Aside0.mk (Kd.R_lt HW.out); have HLB57 := Aside0.mk (below_size (HB.out)); have n0_ := Aside0.mk (blk_below BX.out hb); have n1_ := Aside0.mk (blk_below BW.out hb); have n2_ := Aside0.mk (Kd.R_below HW.out hb); have n3_ := Aside0.mk (below_step (HB.out) hb); clear BX BW HW HB; have BX := n0_; have BW := n1_; have HW := n2_; have HB := n3_; clear n0_ n1_ n2_ n3_; clear hb ho hg_ hnew_; obtain ⟨h0_, h1_, h2_, h3_, h4_, h5_, f0_, f1_, f2_, f3_, f4_, f5_⟩ := impl_formatInstr.bx BX.out; have hw_wl57 : wl57.cell? ⟨gW, 0, none⟩ = some (Value.slice A51 y51.length c51) := (blk_cell BW.out 0).trans rfl; have hwf_wl57 := blk_frozen BW.out 0) | (go_at_call 42; refine (impl_some.at _ a0_3 a0_4 _ _ _ HO57.out).mono ?_; rintro e wo58 ⟨vo58, rfl, hro, hgr, hob⟩; have hK_ : Kept wl57 wo58 (fun k => (Value.slice A57 [a0_3, a0_4].length c57).ownBlock = some k) := ⟨hgr.size, fun i hi hs => hgr.block i hi (fun he => hs he.symm)⟩; have hbs_ := Kd.R_base HO57.out; have n0_ := Aside0.mk (blk_kept BX.out hK_ (fun he => absurd (hbs_ _ he) (Nat.not_le_of_lt HLX57.out))); have n1_ := Aside0.mk (blk_kept BW.out hK_ (fun he => absurd (hbs_ _ he) (Nat.not_le_of_lt HLT57.out))); have n2_ := Aside0.mk (impl_formatInstr.keepS HW.out hK_ (fun k hk he => absurd (hbs_ _ he) (Nat.not_le_of_lt (HLV57.out k hk)))); have n3_ := Aside0.mk (Below.grown HB.out hgr (below_size HB.out) (fun k hk => Nat.le_trans HLB57.out (hbs_ k hk))); clear BX BW HW HB; have BX := n0_; have BW := n1_; have HW := n2_; have HB := n3_; clear n0_ n1_ n2_ n3_; obtain ⟨A58, c58, e58, hcl, hC⟩ := impl_formatInstr.lit hro HLT57.out HLV57.out; subst e58; have HC58 := Aside0.mk hC; have HCL58 := Aside0.mk hcl; clear hC hcl hro hgr hob hK_ hbs_; obtain ⟨h0_, h1_, h2_, h3_, h4_, h5_, f0_, f1_, f2_, f3_, f4_, f5_⟩ := impl_formatInstr.bx BX.out; have hw_wo58 : wo58.cell? ⟨gW, 0, none⟩ = some (Value.slice A51 y51.length c51) := (blk_cell BW.out 0).trans rfl; have hwf_wo58 := blk_frozen BW.out 0) | ((with_reducible refine gate_dst (N := 1) rfl ?_); refine box_event ?hg1 (N := 1) ?hd1 (cs := #[.int .i64 a0_0, .int .i64 a0_1, .int .i64 a0_2, .int .i64 a0_3, .int .i64 a0_4, .string a0_5]) (t := 27) ?hr1 ?_; (case hd1 => rfl); (case hg1 => rfl); (case hr1 => first | (go_simp; done) | (go_simp; rfl)); intro gx hg w1 hbox hb; have n0_ := Aside0.mk (below_step (HB.out) hb); have n1_ := Aside0.mk (hbox); have n2_ := Aside0.mk ((by rw [hg]; exact below_size (HB.out) : w.heap.size ≤ gx)); clear HB; have HB := n0_; have BX := n1_; have GX := n2_; clear n0_ n1_ n2_; clear hb hbox hg; obtain ⟨h0_, h1_, h2_, h3_, h4_, h5_, f0_, f1_, f2_, f3_, f4_, f5_⟩ := impl_formatInstr.bx BX.out) | (go_at_call 10; (with_reducible refine (impl_OpName.calls a0_0 o _ AO.out ?tab10).mono ?_); (case tab10 => exact (HTAB.out).below (HB.out)); rintro e w2 ⟨rfl, hb⟩; have n0_ := Aside0.mk (blk_below BX.out hb); have n1_ := Aside0.mk (below_step (HB.out) hb); clear BX HB; have BX := n0_; have HB := n1_; clear n0_ n1_; clear hb; obtain ⟨h0_, h1_, h2_, h3_, h4_, h5_, f0_, f1_, f2_, f3_, f4_, f5_⟩ := impl_formatInstr.bx BX.out) | ((with_reducible refine gate_dst (N := 8) rfl ?_); refine Kd.R_lit Kd.string (w0 := w) w.heap.size 9 ?hg8 (N := 8) ?hd8 (xs := [o]) (inner := [.string o]) (ok := fun _ => True) (okp := fun _ => True) ?hr8 ?hp8 (fun _ hk => hk) trivial (HB.out) (below_size (HB.out)) (by simp) ?_; (case hd8 => rfl); (case hg8 => rfl); (case hr8 => first | (go_simp; done) | (go_simp; rfl)); (case hp8 => exact Kd.reps_scalar [o]); intro v8 w3 ho hb hg_ hnew_; obtain ⟨y8, hy8⟩ : ∃ y_, y_ = [o] := ⟨_, rfl⟩; rw [← hy8] at ho; have HY8 := Aside0.mk hy8; have HN8 := Aside0.mk (show y8.length ≤ 1 from by rw [hy8]; simp); obtain ⟨A8, c8, e8⟩ := Kd.R_slice ho; subst e8; have n0_ := Aside0.mk ((hg_.block gx (blk_lt BX.out) (by simp)).trans BX.out); have n1_ := Aside0.mk (hb); have n2_ := Aside0.mk (ho); clear BX HB; have BX := n0_; have HB := n1_; have HW := n2_; clear n0_ n1_ n2_; clear hb ho hg_ hnew_ hy8; obtain ⟨h0_, h1_, h2_, h3_, h4_, h5_, f0_, f1_, f2_, f3_, f4_, f5_⟩ := impl_formatInstr.bx BX.out) | ((with_reducible refine gate_dst (N := 3) rfl ?_); refine box_event ?hg3 (N := 3) ?hd3 (cs := #[.slice none 0 0]) (t := 62) ?hr3 ?_; (case hd3 => rfl); (case hg3 => rfl); (case hr3 => first | (go_simp; done) | (go_simp; rfl)); intro gW hg w4 hbox hb; have NE := Aside0.mk (show gx ≠ gW from by rw [hg]; exact Nat.ne_of_lt (blk_lt BX.out)); have GW := Aside0.mk (show w.heap.size ≤ gW from by rw [hg]; exact below_size (HB.out)); have n0_ := Aside0.mk (blk_below BX.out hb); have n1_ := Aside0.mk (Kd.R_below HW.out hb); have n2_ := Aside0.mk (below_step (HB.out) hb); have n3_ := Aside0.mk (hbox); clear BX HW HB; have BX := n0_; have HW := n1_; have HB := n2_; have BW := n3_; clear n0_ n1_ n2_ n3_; clear hb hbox hg; have hw_w4 : w4.cell? ⟨gW, 0, none⟩ = some (Value.slice none 0 0) := (blk_cell BW.out 0).trans rfl; have hwf_w4 := blk_frozen BW.out 0; obtain ⟨h0_, h1_, h2_, h3_, h4_, h5_, f0_, f1_, f2_, f3_, f4_, f5_⟩ := impl_formatInstr.bx BX.out) | ((with_reducible refine gate_store (t := 62) (p := 3) rfl ?_); refine store_event (t := 62) (p := 3) (v := ?vo3) (w1 := (w4.setCell ⟨gW, 0, none⟩ (.slice A8 y8.length c8))) ?hgs3 ?hos3 ?hns3 ?hrs3 ?_; (case hos3 => rfl); (case hgs3 => rfl); (case hns3 => rfl); (case hrs3 => first | (go_simp; done) | (go_simp; rfl)); intro ws3 hw; have n0_ := Aside0.mk (show Kd.R Kd.string 9 ws3 w.heap.size (fun _ => True) (.slice A8 y8.length c8) y8 from by rw [hw]; exact Kd.R_set HW.out BW.out (by decide) 0 _); have n1_ := Aside0.mk (show ws3.heap[gx]? = some (.cells #[.int .i64 a0_0, .int .i64 a0_1, .int .i64 a0_2, .int .i64 a0_3, .int .i64 a0_4, .string a0_5] 27 (0, 0)) from by rw [hw]; exact (Below.heap_setCell w4 ⟨gW, 0, none⟩ _ gx NE.out).trans BX.out); have n2_ := Aside0.mk (show ws3.heap[gW]? = some (.cells #[.slice A8 y8.length c8] 62 (0, 0)) from by rw [hw]; exact blk_put BW.out 0 _ rfl); have n3_ := Aside0.mk (show Below w.heap.size w ws3 from by rw [hw]; exact below_set HB.out GW.out); clear HW BX BW HB; have HW := n0_; have BX := n1_; have BW := n2_; have HB := n3_; clear n0_ n1_ n2_ n3_; clear hw; obtain ⟨h0_, h1_, h2_, h3_, h4_, h5_, f0_, f1_, f2_, f3_, f4_, f5_⟩ := impl_formatInstr.bx BX.out; have hw_ws3 : ws3.cell? ⟨gW, 0, none⟩ = some (Value.slice A8 y8.length c8) := (blk_cell BW.out 0).trans rfl; have hwf_ws3 := blk_frozen BW.out 0) | (go_at_call 76; have hyW : y901 = impl_formatInstr.W o a0_0 a0_1 a0_2 a0_3 a0_4 a0_5 := (by have HCT := HCS.out; unfold impl_formatInstr.W; rw [if_neg (by omega), if_neg (by omega), if_pos (by omega)]; rw [HY901.out, HY51.out, HY900.out, HY8.out]); have HP := Aside0.mk (show 0 < y901.length from by rw [HY901.out, HY51.out, HY900.out, HY8.out]; simp only [List.length_append, List.length_cons, List.length_nil]; omega); have HJ := Aside0.mk (show (Go.Lib.join (y901.map (·.data.toList)) [32]).length ≤ 140737488355328 from by rw [hyW]; exact HJW.out); have HYW := Aside0.mk hyW; clear hyW; refine (strings_Join.at _ y901 (HP.out) w.heap.size _ _ HW.out ?jn ?jl).mono ?_; (case jn => (have := HN901.out; omega)); (case jl => exact HJ.out); rintro e wj ⟨rfl, hb⟩; have n0_ := Aside0.mk (below_step (HB.out) hb); clear HB; have HB := n0_; clear n0_ hb))
            go_ret
            exact ⟨(show Ending.returned (.string (strings_Join.J y901)) = .returned (.string r) from by rw [HR.out, HYW.out]), HB.out⟩
          · skip
            by_cases c7 : a0_0 = 7
            · have q4 : (a0_0 == 4) = false := by rw [c7]; rfl
              have q10 : (a0_0 == 10) = false := by rw [c7]; rfl
              have q5 : (a0_0 == 5) = false := by rw [c7]; rfl
              have q6 : (a0_0 == 6) = false := by rw [c7]; rfl
              have q7 : (a0_0 == 7) = true := by rw [c7]; rfl
              have HCS := Aside0.mk (show a0_0 ≠ 4 ∧ a0_0 ≠ 10 ∧ a0_0 ≠ 5 ∧ a0_0 ≠ 6 ∧ a0_0 = 7 ∧ True from ⟨c4, c10, c5, c6, c7, trivial⟩)
              clear c4 c10 c5 c6 c7
              go_enter Tryd.func49, Tryd.ntmps49
              go_wp2_with (first | (go_at_call 74; refine (impl_formatInstr_1.at gW (.slice A71 y71.length c71) y71 A78 c78 (impl_some.L a0_3 a0_4) w _ (HB.out) BW.out GW.out HW.out HC78.out HCL78.out ?fit901 ?len901 HTAB.out).mono ?_; (case fit901 => intro x hx; have hx := (List.mem_filter.mp hx).1; simp only [List.mem_cons, List.not_mem_nil, or_false] at hx; rcases hx with rfl | rfl <;> exact HF.out _ (by simp)); (case len901 => (have := HN71.out; have hL_ := impl_some.len a0_3 a0_4; omega)); rintro e wf901 ⟨rfl, v901, hbx, hr, hb, hk⟩; obtain ⟨y901, hy⟩ : ∃ y_, y_ = y71 ++ ((impl_some.L a0_3 a0_4)).map impl_formatInstr_1.S := ⟨_, rfl⟩; rw [← hy] at hr; have HY901 := Aside0.mk hy; have HN901 := Aside0.mk (show y901.length ≤ 9 from by have := HN71.out; rw [hy, List.length_append, List.length_map]; have hL_ := impl_some.len a0_3 a0_4; omega); obtain ⟨A901, c901, e901⟩ := Kd.R_slice hr; subst e901; have hne_ := Kd.R_ne HW.out BX.out (by decide); have n0_ := Aside0.mk (blk_kept BX.out hk (fun he => he.elim NE.out (fun h => hne_ h.symm))); have n1_ := Aside0.mk (hbx); have n2_ := Aside0.mk (hr); have n3_ := Aside0.mk (hb); clear BX BW HW HB; have BX := n0_; have BW := n1_; have HW := n2_; have HB := n3_; clear n0_ n1_ n2_ n3_; clear hbx hr hb hk hne_ hy; obtain ⟨h0_, h1_, h2_, h3_, h4_, h5_, f0_, f1_, f2_, f3_, f4_, f5_⟩ := impl_formatInstr.bx BX.out; have hw_wf901 : wf901.cell? ⟨gW, 0, none⟩ = some (Value.slice A901 y901.length c901) := (blk_cell BW.out 0).trans rfl; have hwf_wf901 := blk_frozen BW.out 0) | ((with_reducible refine gate_dst (N := 65) rfl ?_); refine Kd.R_lit (Kd.int .i64) _ 3 ?hg65 (N := 65) ?hd65 (xs := [a0_1]) (inner := [.int .i64 a0_1]) (ok := fun _ => True) (okp := fun _ => True) ?hr65 ?hp65 (fun _ hk => hk) trivial (Below.refl _ _) (Nat.le_refl _) (by simp) ?_; (case hd65 => rfl); (case hg65 => rfl); (case hr65 => first | (go_simp; done) | (go_simp; rfl)); (case hp65 => exact Kd.reps_scalar [a0_1]); intro v65 wl65 ho hb hg_ hnew_; obtain ⟨A65, c65, e65, hcl, hC⟩ := impl_formatInstr.lit ho (blk_lt BW.out) (Kd.R_lt HW.out); subst e65; have HC65 := Aside0.mk hC; have HCL65 := Aside0.mk hcl; clear hC hcl; have n0_ := Aside0.mk (blk_below BX.out hb); have n1_ := Aside0.mk (blk_below BW.out hb); have n2_ := Aside0.mk (Kd.R_below HW.out hb); have n3_ := Aside0.mk (below_step (HB.out) hb); clear BX BW HW HB; have BX := n0_; have BW := n1_; have HW := n2_; have HB := n3_; clear n0_ n1_ n2_ n3_; clear hb ho hg_ hnew_; obtain ⟨h0_, h1_, h2_, h3_, h4_, h5_, f0_, f1_, f2_, f3_, f4_, f5_⟩ := impl_formatInstr.bx BX.out; have hw_wl65 : wl65.cell? ⟨gW, 0, none⟩ = some (Value.slice A8 y8.length c8) := (blk_cell BW.out 0).trans rfl; have hwf_wl65 := blk_frozen BW.out 0) | (go_at_call 74; refine (impl_formatInstr_1.at gW (.slice A8 y8.length c8) y8 A65 c65 [a0_1] w _ (HB.out) BW.out GW.out HW.out HC65.out HCL65.out ?fit900 ?len900 HTAB.out).mono ?_; (case fit900 => intro x hx; simp only [List.mem_cons, List.not_mem_nil, or_false] at hx; obtain rfl := hx; exact HF.out _ (by simp)); (case len900 => (have := HN8.out; simp only [List.length_cons, List.length_nil]; omega)); rintro e wf900 ⟨rfl, v900, hbx, hr, hb, hk⟩; obtain ⟨y900, hy⟩ : ∃ y_, y_ = y8 ++ ([a0_1]).map impl_formatInstr_1.S := ⟨_, rfl⟩; rw [← hy] at hr; have HY900 := Aside0.mk hy; have HN900 := Aside0.mk (show y900.length ≤ 5 from by have := HN8.out; rw [hy, List.length_append, List.length_map]; simp only [List.length_cons, List.length_nil]; omega); obtain ⟨A900, c900, e900⟩ := Kd.R_slice hr; subst e900; have hne_ := Kd.R_ne HW.out BX.out (by decide); have n0_ := Aside0.mk (blk_kept BX.out hk (fun he => he.elim NE.out (fun h => hne_ h.symm))); have n1_ := Aside0.mk (hbx); have n2_ := Aside0.mk (hr); have n3_ := Aside0.mk (hb); clear BX BW HW HB; have BX := n0_; have BW := n1_; have HW := n2_; have HB := n3_; clear n0_ n1_ n2_ n3_; clear hbx hr hb hk hne_ hy; obtain ⟨h0_, h1_, h2_, h3_, h4_, h5_, f0_, f1_, f2_, f3_, f4_, f5_⟩ := impl_formatInstr.bx BX.out; have hw_wf900 : wf900.cell? ⟨gW, 0, none⟩ = some (Value.slice A900 y900.length c900) := (blk_cell BW.out 0).trans rfl; have hwf_wf900 := blk_frozen BW.out 0) | ((with_reducible refine gate_dst (N := 70) rfl ?_); refine Kd.R_lit Kd.string _ 9 ?hg70 (N := 70) ?hd70 (xs := [a0_5]) (inner := [.string a0_5]) (ok := fun _ => True) (okp := fun _ => True) ?hr70 ?hp70 (fun _ hk => hk) trivial (Below.refl _ _) (Nat.le_refl _) (by simp) ?_; (case hd70 => rfl); (case hg70 => rfl); (case hr70 => first | (go_simp; done) | (go_simp; rfl)); (case hp70 => exact Kd.reps_scalar [a0_5]); intro v70 wl70 ho hb hg_ hnew_; obtain ⟨A70, c70, e70, hcl, hC⟩ := Kd.R_reads ho; subst e70; have HC70 := Aside0.mk hC; clear hC hcl; have n0_ := Aside0.mk (blk_below BX.out hb); have n1_ := Aside0.mk (blk_below BW.out hb); have n2_ := Aside0.mk (Kd.R_below HW.out hb); have n3_ := Aside0.mk (below_step (HB.out) hb); clear BX BW HW HB; have BX := n0_; have BW := n1_; have HW := n2_; have HB := n3_; clear n0_ n1_ n2_ n3_; clear hb ho hg_ hnew_; obtain ⟨h0_, h1_, h2_, h3_, h4_, h5_, f0_, f1_, f2_, f3_, f4_, f5_⟩ := impl_formatInstr.bx BX.out; have hw_wl70 : wl70.cell? ⟨gW, 0, none⟩ = some (Value.slice A900 y900.length c900) := (blk_cell BW.out 0).trans rfl; have hwf_wl70 := blk_frozen BW.out 0) | ((with_reducible refine gate_builtin (b := .append) (xs := #[.tmp 67, .tmp 70]) rfl ?_); at_builtin; refine Kd.R_append_row Value.string ByteArray.empty (h1 := fun _ => rfl) (w0 := w) w.heap.size rfl (.tmp 67) (.tmp 70) 62 9 (.string ⟨#[]⟩) 16 rfl Tryd.underlying62 info9 rfl (by decide) (.slice A900 y900.length c900) y900 [a0_5] A70 [a0_5].length c70 (fun _ => True) rfl rfl (fun _ _ => trivial) HW.out HC70.out (HB.out) (below_size (HB.out)) ?aL71 ?_; (case aL71 => (have hl_ := HN900.out; simp only [List.length_singleton]; omega)); intro v71 wa71 ho hb hg hat; obtain ⟨y71, hy⟩ : ∃ y_, y_ = y900 ++ [a0_5] := ⟨_, rfl⟩; rw [← hy] at ho; have HY71 := Aside0.mk hy; have HN71 := Aside0.mk (show y71.length ≤ 6 from by have := HN900.out; rw [hy, List.length_append]; simp only [List.length_cons, List.length_nil]; omega); obtain ⟨A71, c71, e71⟩ := Kd.R_slice ho; subst e71; have hnx_ := Kd.R_ne HW.out BX.out (by decide); have hnw_ := Kd.R_ne HW.out BW.out (by decide); have n0_ := Aside0.mk ((hg.block gx (blk_lt BX.out) hnx_).trans BX.out); have n1_ := Aside0.mk ((hg.block gW (blk_lt BW.out) hnw_).trans BW.out); have n2_ := Aside0.mk (ho); have n3_ := Aside0.mk (hb); clear BX BW HW HB; have BX := n0_; have BW := n1_; have HW := n2_; have HB := n3_; clear n0_ n1_ n2_ n3_; clear ho hb hg hat hnx_ hnw_ hy; obtain ⟨h0_, h1_, h2_, h3_, h4_, h5_, f0_, f1_, f2_, f3_, f4_, f5_⟩ := impl_formatInstr.bx BX.out; have hw_wa71 : wa71.cell? ⟨gW, 0, none⟩ = some (Value.slice A900 y900.length c900) := (blk_cell BW.out 0).trans rfl; have hwf_wa71 := blk_frozen BW.out 0) | ((with_reducible refine gate_store (t := 62) (p := 3) rfl ?_); refine store_event (t := 62) (p := 3) (v := ?vo71) (w1 := (wa71.setCell ⟨gW, 0, none⟩ (.slice A71 y71.length c71))) ?hgs71 ?hos71 ?hns71 ?hrs71 ?_; (case hos71 => rfl); (case hgs71 => rfl); (case hns71 => rfl); (case hrs71 => first | (go_simp; done) | (go_simp; rfl)); intro ws71 hw; have n0_ := Aside0.mk (show Kd.R Kd.string 9 ws71 w.heap.size (fun _ => True) (.slice A71 y71.length c71) y71 from by rw [hw]; exact Kd.R_set HW.out BW.out (by decide) 0 _); have n1_ := Aside0.mk (show ws71.heap[gx]? = some (.cells #[.int .i64 a0_0, .int .i64 a0_1, .int .i64 a0_2, .int .i64 a0_3, .int .i64 a0_4, .string a0_5] 27 (0, 0)) from by rw [hw]; exact (Below.heap_setCell wa71 ⟨gW, 0, none⟩ _ gx NE.out).trans BX.out); have n2_ := Aside0.mk (show ws71.heap[gW]? = some (.cells #[.slice A71 y71.length c71] 62 (0, 0)) from by rw [hw]; exact blk_put BW.out 0 _ rfl); have n3_ := Aside0.mk (show Below w.heap.size w ws71 from by rw [hw]; exact below_set HB.out GW.out); clear HW BX BW HB; have HW := n0_; have BX := n1_; have BW := n2_; have HB := n3_; clear n0_ n1_ n2_ n3_; clear hw; obtain ⟨h0_, h1_, h2_, h3_, h4_, h5_, f0_, f1_, f2_, f3_, f4_, f5_⟩ := impl_formatInstr.bx BX.out; have hw_ws71 : ws71.cell? ⟨gW, 0, none⟩ = some (Value.slice A71 y71.length c71) := (blk_cell BW.out 0).trans rfl; have hwf_ws71 := blk_frozen BW.out 0) | ((with_reducible refine gate_dst (N := 77) rfl ?_); refine Kd.R_lit (Kd.int .i64) _ 3 ?hg77 (N := 77) ?hd77 (xs := [a0_3, a0_4]) (inner := [.int .i64 a0_3, .int .i64 a0_4]) (ok := fun _ => True) (okp := fun _ => True) ?hr77 ?hp77 (fun _ hk => hk) trivial (Below.refl _ _) (Nat.le_refl _) (by simp) ?_; (case hd77 => rfl); (case hg77 => rfl); (case hr77 => first | (go_simp; done) | (go_simp; rfl)); (case hp77 => exact Kd.reps_scalar [a0_3, a0_4]); intro v77 wl77 ho hb hg_ hnew_; obtain ⟨A77, c77, e77⟩ := Kd.R_slice ho; subst e77; have HO77 := Aside0.mk ho; have HLT77 := Aside0.mk (blk_lt BW.out); have HLX77 := Aside0.mk (blk_lt BX.out); have HLV77 := Aside0.mk (Kd.R_lt HW.out); have HLB77 := Aside0.mk (below_size (HB.out)); have n0_ := Aside0.mk (blk_below BX.out hb); have n1_ := Aside0.mk (blk_below BW.out hb); have n2_ := Aside0.mk (Kd.R_below HW.out hb); have n3_ := Aside0.mk (below_step (HB.out) hb); clear BX BW HW HB; have BX := n0_; have BW := n1_; have HW := n2_; have HB := n3_; clear n0_ n1_ n2_ n3_; clear hb ho hg_ hnew_; obtain ⟨h0_, h1_, h2_, h3_, h4_, h5_, f0_, f1_, f2_, f3_, f4_, f5_⟩ := impl_formatInstr.bx BX.out; have hw_wl77 : wl77.cell? ⟨gW, 0, none⟩ = some (Value.slice A71 y71.length c71) := (blk_cell BW.out 0).trans rfl; have hwf_wl77 := blk_frozen BW.out 0) | (go_at_call 42; refine (impl_some.at _ a0_3 a0_4 _ _ _ HO77.out).mono ?_; rintro e wo78 ⟨vo78, rfl, hro, hgr, hob⟩; have hK_ : Kept wl77 wo78 (fun k => (Value.slice A77 [a0_3, a0_4].length c77).ownBlock = some k) := ⟨hgr.size, fun i hi hs => hgr.block i hi (fun he => hs he.symm)⟩; have hbs_ := Kd.R_base HO77.out; have n0_ := Aside0.mk (blk_kept BX.out hK_ (fun he => absurd (hbs_ _ he) (Nat.not_le_of_lt HLX77.out))); have n1_ := Aside0.mk (blk_kept BW.out hK_ (fun he => absurd (hbs_ _ he) (Nat.not_le_of_lt HLT77.out))); have n2_ := Aside0.mk (impl_formatInstr.keepS HW.out hK_ (fun k hk he => absurd (hbs_ _ he) (Nat.not_le_of_lt (HLV77.out k hk)))); have n3_ := Aside0.mk (Below.grown HB.out hgr (below_size HB.out) (fun k hk => Nat.le_trans HLB77.out (hbs_ k hk))); clear BX BW HW HB; have BX := n0_; have BW := n1_; have HW := n2_; have HB := n3_; clear n0_ n1_ n2_ n3_; obtain ⟨A78, c78, e78, hcl, hC⟩ := impl_formatInstr.lit hro HLT77.out HLV77.out; subst e78; have HC78 := Aside0.mk hC; have HCL78 := Aside0.mk hcl; clear hC hcl hro hgr hob hK_ hbs_; obtain ⟨h0_, h1_, h2_, h3_, h4_, h5_, f0_, f1_, f2_, f3_, f4_, f5_⟩ := impl_formatInstr.bx BX.out; have hw_wo78 : wo78.cell? ⟨gW, 0, none⟩ = some (Value.slice A71 y71.length c71) := (blk_cell BW.out 0).trans rfl; have hwf_wo78 := blk_frozen BW.out 0) | ((with_reducible refine gate_dst (N := 1) rfl ?_); refine box_event ?hg1 (N := 1) ?hd1 (cs := #[.int .i64 a0_0, .int .i64 a0_1, .int .i64 a0_2, .int .i64 a0_3, .int .i64 a0_4, .string a0_5]) (t := 27) ?hr1 ?_; (case hd1 => rfl); (case hg1 => rfl); (case hr1 => first | (go_simp; done) | (go_simp; rfl)); intro gx hg w1 hbox hb; have n0_ := Aside0.mk (below_step (HB.out) hb); have n1_ := Aside0.mk (hbox); have n2_ := Aside0.mk ((by rw [hg]; exact below_size (HB.out) : w.heap.size ≤ gx)); clear HB; have HB := n0_; have BX := n1_; have GX := n2_; clear n0_ n1_ n2_; clear hb hbox hg; obtain ⟨h0_, h1_, h2_, h3_, h4_, h5_, f0_, f1_, f2_, f3_, f4_, f5_⟩ := impl_formatInstr.bx BX.out) | (go_at_call 10; (with_reducible refine (impl_OpName.calls a0_0 o _ AO.out ?tab10).mono ?_); (case tab10 => exact (HTAB.out).below (HB.out)); rintro e w2 ⟨rfl, hb⟩; have n0_ := Aside0.mk (blk_below BX.out hb); have n1_ := Aside0.mk (below_step (HB.out) hb); clear BX HB; have BX := n0_; have HB := n1_; clear n0_ n1_; clear hb; obtain ⟨h0_, h1_, h2_, h3_, h4_, h5_, f0_, f1_, f2_, f3_, f4_, f5_⟩ := impl_formatInstr.bx BX.out) | ((with_reducible refine gate_dst (N := 8) rfl ?_); refine Kd.R_lit Kd.string (w0 := w) w.heap.size 9 ?hg8 (N := 8) ?hd8 (xs := [o]) (inner := [.string o]) (ok := fun _ => True) (okp := fun _ => True) ?hr8 ?hp8 (fun _ hk => hk) trivial (HB.out) (below_size (HB.out)) (by simp) ?_; (case hd8 => rfl); (case hg8 => rfl); (case hr8 => first | (go_simp; done) | (go_simp; rfl)); (case hp8 => exact Kd.reps_scalar [o]); intro v8 w3 ho hb hg_ hnew_; obtain ⟨y8, hy8⟩ : ∃ y_, y_ = [o] := ⟨_, rfl⟩; rw [← hy8] at ho; have HY8 := Aside0.mk hy8; have HN8 := Aside0.mk (show y8.length ≤ 1 from by rw [hy8]; simp); obtain ⟨A8, c8, e8⟩ := Kd.R_slice ho; subst e8; have n0_ := Aside0.mk ((hg_.block gx (blk_lt BX.out) (by simp)).trans BX.out); have n1_ := Aside0.mk (hb); have n2_ := Aside0.mk (ho); clear BX HB; have BX := n0_; have HB := n1_; have HW := n2_; clear n0_ n1_ n2_; clear hb ho hg_ hnew_ hy8; obtain ⟨h0_, h1_, h2_, h3_, h4_, h5_, f0_, f1_, f2_, f3_, f4_, f5_⟩ := impl_formatInstr.bx BX.out) | ((with_reducible refine gate_dst (N := 3) rfl ?_); refine box_event ?hg3 (N := 3) ?hd3 (cs := #[.slice none 0 0]) (t := 62) ?hr3 ?_; (case hd3 => rfl); (case hg3 => rfl); (case hr3 => first | (go_simp; done) | (go_simp; rfl)); intro gW hg w4 hbox hb; have NE := Aside0.mk (show gx ≠ gW from by rw [hg]; exact Nat.ne_of_lt (blk_lt BX.out)); have GW := Aside0.mk (show w.heap.size ≤ gW from by rw [hg]; exact below_size (HB.out)); have n0_ := Aside0.mk (blk_below BX.out hb); have n1_ := Aside0.mk (Kd.R_below HW.out hb); have n2_ := Aside0.mk (below_step (HB.out) hb); have n3_ := Aside0.mk (hbox); clear BX HW HB; have BX := n0_; have HW := n1_; have HB := n2_; have BW := n3_; clear n0_ n1_ n2_ n3_; clear hb hbox hg; have hw_w4 : w4.cell? ⟨gW, 0, none⟩ = some (Value.slice none 0 0) := (blk_cell BW.out 0).trans rfl; have hwf_w4 := blk_frozen BW.out 0; obtain ⟨h0_, h1_, h2_, h3_, h4_, h5_, f0_, f1_, f2_, f3_, f4_, f5_⟩ := impl_formatInstr.bx BX.out) | ((with_reducible refine gate_store (t := 62) (p := 3) rfl ?_); refine store_event (t := 62) (p := 3) (v := ?vo3) (w1 := (w4.setCell ⟨gW, 0, none⟩ (.slice A8 y8.length c8))) ?hgs3 ?hos3 ?hns3 ?hrs3 ?_; (case hos3 => rfl); (case hgs3 => rfl); (case hns3 => rfl); (case hrs3 => first | (go_simp; done) | (go_simp; rfl)); intro ws3 hw; have n0_ := Aside0.mk (show Kd.R Kd.string 9 ws3 w.heap.size (fun _ => True) (.slice A8 y8.length c8) y8 from by rw [hw]; exact Kd.R_set HW.out BW.out (by decide) 0 _); have n1_ := Aside0.mk (show ws3.heap[gx]? = some (.cells #[.int .i64 a0_0, .int .i64 a0_1, .int .i64 a0_2, .int .i64 a0_3, .int .i64 a0_4, .string a0_5] 27 (0, 0)) from by rw [hw]; exact (Below.heap_setCell w4 ⟨gW, 0, none⟩ _ gx NE.out).trans BX.out); have n2_ := Aside0.mk (show ws3.heap[gW]? = some (.cells #[.slice A8 y8.length c8] 62 (0, 0)) from by rw [hw]; exact blk_put BW.out 0 _ rfl); have n3_ := Aside0.mk (show Below w.heap.size w ws3 from by rw [hw]; exact below_set HB.out GW.out); clear HW BX BW HB; have HW := n0_; have BX := n1_; have BW := n2_; have HB := n3_; clear n0_ n1_ n2_ n3_; clear hw; obtain ⟨h0_, h1_, h2_, h3_, h4_, h5_, f0_, f1_, f2_, f3_, f4_, f5_⟩ := impl_formatInstr.bx BX.out; have hw_ws3 : ws3.cell? ⟨gW, 0, none⟩ = some (Value.slice A8 y8.length c8) := (blk_cell BW.out 0).trans rfl; have hwf_ws3 := blk_frozen BW.out 0) | (go_at_call 76; have hyW : y901 = impl_formatInstr.W o a0_0 a0_1 a0_2 a0_3 a0_4 a0_5 := (by have HCT := HCS.out; unfold impl_formatInstr.W; rw [if_neg (by omega), if_neg (by omega), if_neg (by omega), if_pos (by omega)]; rw [HY901.out, HY71.out, HY900.out, HY8.out]); have HP := Aside0.mk (show 0 < y901.length from by rw [HY901.out, HY71.out, HY900.out, HY8.out]; simp only [List.length_append, List.length_cons, List.length_nil]; omega); have HJ := Aside0.mk (show (Go.Lib.join (y901.map (·.data.toList)) [32]).length ≤ 140737488355328 from by rw [hyW]; exact HJW.out); have HYW := Aside0.mk hyW; clear hyW; refine (strings_Join.at _ y901 (HP.out) w.heap.size _ _ HW.out ?jn ?jl).mono ?_; (case jn => (have := HN901.out; omega)); (case jl => exact HJ.out); rintro e wj ⟨rfl, hb⟩; have n0_ := Aside0.mk (below_step (HB.out) hb); clear HB; have HB := n0_; clear n0_ hb))
              go_ret
              exact ⟨(show Ending.returned (.string (strings_Join.J y901)) = .returned (.string r) from by rw [HR.out, HYW.out]), HB.out⟩
            · skip
              have q4 : (a0_0 == 4) = false := beq_eq_false_iff_ne.mpr c4
              have q10 : (a0_0 == 10) = false := beq_eq_false_iff_ne.mpr c10
              have q5 : (a0_0 == 5) = false := beq_eq_false_iff_ne.mpr c5
              have q6 : (a0_0 == 6) = false := beq_eq_false_iff_ne.mpr c6
              have q7 : (a0_0 == 7) = false := beq_eq_false_iff_ne.mpr c7
              have HCS := Aside0.mk (show a0_0 ≠ 4 ∧ a0_0 ≠ 10 ∧ a0_0 ≠ 5 ∧ a0_0 ≠ 6 ∧ a0_0 ≠ 7 ∧ True from ⟨c4, c10, c5, c6, c7, trivial⟩)
              clear c4 c10 c5 c6 c7
              go_enter Tryd.func49, Tryd.ntmps49
              go_wp2_with (first | ((with_reducible refine gate_dst (N := 1) rfl ?_); refine box_event ?hg1 (N := 1) ?hd1 (cs := #[.int .i64 a0_0, .int .i64 a0_1, .int .i64 a0_2, .int .i64 a0_3, .int .i64 a0_4, .string a0_5]) (t := 27) ?hr1 ?_; (case hd1 => rfl); (case hg1 => rfl); (case hr1 => first | (go_simp; done) | (go_simp; rfl)); intro gx hg w1 hbox hb; have n0_ := Aside0.mk (below_step (HB.out) hb); have n1_ := Aside0.mk (hbox); have n2_ := Aside0.mk ((by rw [hg]; exact below_size (HB.out) : w.heap.size ≤ gx)); clear HB; have HB := n0_; have BX := n1_; have GX := n2_; clear n0_ n1_ n2_; clear hb hbox hg; obtain ⟨h0_, h1_, h2_, h3_, h4_, h5_, f0_, f1_, f2_, f3_, f4_, f5_⟩ := impl_formatInstr.bx BX.out) | (go_at_call 10; (with_reducible refine (impl_OpName.calls a0_0 o _ AO.out ?tab10).mono ?_); (case tab10 => exact (HTAB.out).below (HB.out)); rintro e w2 ⟨rfl, hb⟩; have n0_ := Aside0.mk (blk_below BX.out hb); have n1_ := Aside0.mk (below_step (HB.out) hb); clear BX HB; have BX := n0_; have HB := n1_; clear n0_ n1_; clear hb; obtain ⟨h0_, h1_, h2_, h3_, h4_, h5_, f0_, f1_, f2_, f3_, f4_, f5_⟩ := impl_formatInstr.bx BX.out) | ((with_reducible refine gate_dst (N := 8) rfl ?_); refine Kd.R_lit Kd.string (w0 := w) w.heap.size 9 ?hg8 (N := 8) ?hd8 (xs := [o]) (inner := [.string o]) (ok := fun _ => True) (okp := fun _ => True) ?hr8 ?hp8 (fun _ hk => hk) trivial (HB.out) (below_size (HB.out)) (by simp) ?_; (case hd8 => rfl); (case hg8 => rfl); (case hr8 => first | (go_simp; done) | (go_simp; rfl)); (case hp8 => exact Kd.reps_scalar [o]); intro v8 w3 ho hb hg_ hnew_; obtain ⟨y8, hy8⟩ : ∃ y_, y_ = [o] := ⟨_, rfl⟩; rw [← hy8] at ho; have HY8 := Aside0.mk hy8; have HN8 := Aside0.mk (show y8.length ≤ 1 from by rw [hy8]; simp); obtain ⟨A8, c8, e8⟩ := Kd.R_slice ho; subst e8; have n0_ := Aside0.mk ((hg_.block gx (blk_lt BX.out) (by simp)).trans BX.out); have n1_ := Aside0.mk (hb); have n2_ := Aside0.mk (ho); clear BX HB; have BX := n0_; have HB := n1_; have HW := n2_; clear n0_ n1_ n2_; clear hb ho hg_ hnew_ hy8; obtain ⟨h0_, h1_, h2_, h3_, h4_, h5_, f0_, f1_, f2_, f3_, f4_, f5_⟩ := impl_formatInstr.bx BX.out) | ((with_reducible refine gate_dst (N := 3) rfl ?_); refine box_event ?hg3 (N := 3) ?hd3 (cs := #[.slice none 0 0]) (t := 62) ?hr3 ?_; (case hd3 => rfl); (case hg3 => rfl); (case hr3 => first | (go_simp; done) | (go_simp; rfl)); intro gW hg w4 hbox hb; have NE := Aside0.mk (show gx ≠ gW from by rw [hg]; exact Nat.ne_of_lt (blk_lt BX.out)); have GW := Aside0.mk (show w.heap.size ≤ gW from by rw [hg]; exact below_size (HB.out)); have n0_ := Aside0.mk (blk_below BX.out hb); have n1_ := Aside0.mk (Kd.R_below HW.out hb); have n2_ := Aside0.mk (below_step (HB.out) hb); have n3_ := Aside0.mk (hbox); clear BX HW HB; have BX := n0_; have HW := n1_; have HB := n2_; have BW := n3_; clear n0_ n1_ n2_ n3_; clear hb hbox hg; have hw_w4 : w4.cell? ⟨gW, 0, none⟩ = some (Value.slice none 0 0) := (blk_cell BW.out 0).trans rfl; have hwf_w4 := blk_frozen BW.out 0; obtain ⟨h0_, h1_, h2_, h3_, h4_, h5_, f0_, f1_, f2_, f3_, f4_, f5_⟩ := impl_formatInstr.bx BX.out) | ((with_reducible refine gate_store (t := 62) (p := 3) rfl ?_); refine store_event (t := 62) (p := 3) (v := ?vo3) (w1 := (w4.setCell ⟨gW, 0, none⟩ (.slice A8 y8.length c8))) ?hgs3 ?hos3 ?hns3 ?hrs3 ?_; (case hos3 => rfl); (case hgs3 => rfl); (case hns3 => rfl); (case hrs3 => first | (go_simp; done) | (go_simp; rfl)); intro ws3 hw; have n0_ := Aside0.mk (show Kd.R Kd.string 9 ws3 w.heap.size (fun _ => True) (.slice A8 y8.length c8) y8 from by rw [hw]; exact Kd.R_set HW.out BW.out (by decide) 0 _); have n1_ := Aside0.mk (show ws3.heap[gx]? = some (.cells #[.int .i64 a0_0, .int .i64 a0_1, .int .i64 a0_2, .int .i64 a0_3, .int .i64 a0_4, .string a0_5] 27 (0, 0)) from by rw [hw]; exact (Below.heap_setCell w4 ⟨gW, 0, none⟩ _ gx NE.out).trans BX.out); have n2_ := Aside0.mk (show ws3.heap[gW]? = some (.cells #[.slice A8 y8.length c8] 62 (0, 0)) from by rw [hw]; exact blk_put BW.out 0 _ rfl); have n3_ := Aside0.mk (show Below w.heap.size w ws3 from by rw [hw]; exact below_set HB.out GW.out); clear HW BX BW HB; have HW := n0_; have BX := n1_; have BW := n2_; have HB := n3_; clear n0_ n1_ n2_ n3_; clear hw; obtain ⟨h0_, h1_, h2_, h3_, h4_, h5_, f0_, f1_, f2_, f3_, f4_, f5_⟩ := impl_formatInstr.bx BX.out; have hw_ws3 : ws3.cell? ⟨gW, 0, none⟩ = some (Value.slice A8 y8.length c8) := (blk_cell BW.out 0).trans rfl; have hwf_ws3 := blk_frozen BW.out 0) | ((with_reducible refine gate_dst (N := 17) rfl ?_); refine Kd.R_lit (Kd.int .i64) _ 3 ?hg17 (N := 17) ?hd17 (xs := [a0_1, a0_2]) (inner := [.int .i64 a0_1, .int .i64 a0_2]) (ok := fun _ => True) (okp := fun _ => True) ?hr17 ?hp17 (fun _ hk => hk) trivial (Below.refl _ _) (Nat.le_refl _) (by simp) ?_; (case hd17 => rfl); (case hg17 => rfl); (case hr17 => first | (go_simp; done) | (go_simp; rfl)); (case hp17 => exact Kd.reps_scalar [a0_1, a0_2]); intro v17 wl17 ho hb hg_ hnew_; obtain ⟨A17, c17, e17, hcl, hC⟩ := impl_formatInstr.lit ho (blk_lt BW.out) (Kd.R_lt HW.out); subst e17; have HC17 := Aside0.mk hC; have HCL17 := Aside0.mk hcl; clear hC hcl; have n0_ := Aside0.mk (blk_below BX.out hb); have n1_ := Aside0.mk (blk_below BW.out hb); have n2_ := Aside0.mk (Kd.R_below HW.out hb); have n3_ := Aside0.mk (below_step (HB.out) hb); clear BX BW HW HB; have BX := n0_; have BW := n1_; have HW := n2_; have HB := n3_; clear n0_ n1_ n2_ n3_; clear hb ho hg_ hnew_; obtain ⟨h0_, h1_, h2_, h3_, h4_, h5_, f0_, f1_, f2_, f3_, f4_, f5_⟩ := impl_formatInstr.bx BX.out; have hw_wl17 : wl17.cell? ⟨gW, 0, none⟩ = some (Value.slice A8 y8.length c8) := (blk_cell BW.out 0).trans rfl; have hwf_wl17 := blk_frozen BW.out 0) | (go_at_call 74; refine (impl_formatInstr_1.at gW (.slice A8 y8.length c8) y8 A17 c17 [a0_1, a0_2] w _ (HB.out) BW.out GW.out HW.out HC17.out HCL17.out ?fit900 ?len900 HTAB.out).mono ?_; (case fit900 => intro x hx; simp only [List.mem_cons, List.not_mem_nil, or_false] at hx; rcases hx with rfl | rfl <;> exact HF.out _ (by simp)); (case len900 => (have := HN8.out; simp only [List.length_cons, List.length_nil]; omega)); rintro e wf900 ⟨rfl, v900, hbx, hr, hb, hk⟩; obtain ⟨y900, hy⟩ : ∃ y_, y_ = y8 ++ ([a0_1, a0_2]).map impl_formatInstr_1.S := ⟨_, rfl⟩; rw [← hy] at hr; have HY900 := Aside0.mk hy; have HN900 := Aside0.mk (show y900.length ≤ 5 from by have := HN8.out; rw [hy, List.length_append, List.length_map]; simp only [List.length_cons, List.length_nil]; omega); obtain ⟨A900, c900, e900⟩ := Kd.R_slice hr; subst e900; have hne_ := Kd.R_ne HW.out BX.out (by decide); have n0_ := Aside0.mk (blk_kept BX.out hk (fun he => he.elim NE.out (fun h => hne_ h.symm))); have n1_ := Aside0.mk (hbx); have n2_ := Aside0.mk (hr); have n3_ := Aside0.mk (hb); clear BX BW HW HB; have BX := n0_; have BW := n1_; have HW := n2_; have HB := n3_; clear n0_ n1_ n2_ n3_; clear hbx hr hb hk hne_ hy; obtain ⟨h0_, h1_, h2_, h3_, h4_, h5_, f0_, f1_, f2_, f3_, f4_, f5_⟩ := impl_formatInstr.bx BX.out; have hw_wf900 : wf900.cell? ⟨gW, 0, none⟩ = some (Value.slice A900 y900.length c900) := (blk_cell BW.out 0).trans rfl; have hwf_wf900 := blk_frozen BW.out 0) | (go_at_call 76; have hyW : y900 = impl_formatInstr.W o a0_0 a0_1 a0_2 a0_3 a0_4 a0_5 := (by have HCT := HCS.out; unfold impl_formatInstr.W; rw [if_neg (by omega), if_neg (by omega), if_neg (by omega), if_neg (by omega)]; rw [HY900.out, HY8.out]); have HP := Aside0.mk (show 0 < y900.length from by rw [HY900.out, HY8.out]; simp only [List.length_append, List.length_cons, List.length_nil]; omega); have HJ := Aside0.mk (show (Go.Lib.join (y900.map (·.data.toList)) [32]).length ≤ 140737488355328 from by rw [hyW]; exact HJW.out); have HYW := Aside0.mk hyW; clear hyW; refine (strings_Join.at _ y900 (HP.out) w.heap.size _ _ HW.out ?jn ?jl).mono ?_; (case jn => (have := HN900.out; omega)); (case jl => exact HJ.out); rintro e wj ⟨rfl, hb⟩; have n0_ := Aside0.mk (below_step (HB.out) hb); clear HB; have HB := n0_; clear n0_ hb))
              go_ret
              exact ⟨(show Ending.returned (.string (strings_Join.J y900)) = .returned (.string r) from by rw [HR.out, HYW.out]), HB.out⟩
  · rw [if_neg c] at h
    exact absurd h (by simp)


/-! ### impl_FormatInstr: function 24 -/
def impl_FormatInstr.f (k : Nat) (a0_0 : Int) (a0_1 : Int) (a0_2 : Int) (a0_3 : Int) (a0_4 : Int) (a0_5 : ByteArray) : Option (ByteArray) := (impl_isInstr.f k a0_0 a0_1 a0_2 a0_3 a0_4 a0_5).bind fun t215 => (if t215 = true then ((impl_formatInstr.f a0_0 a0_1 a0_2 a0_3 a0_4 a0_5).bind fun t216 => (some t216)) else (some (⟨#[]⟩ : ByteArray)))
theorem impl_FormatInstr.mono : ∀ a0 a1 a2 a3 a4 a5 k, LeO (impl_FormatInstr.f k a0 a1 a2 a3 a4 a5) (impl_FormatInstr.f (k + 1) a0 a1 a2 a3 a4 a5) := by
  intro a0 a1 a2 a3 a4 a5 k
  unfold impl_FormatInstr.f
  repeat' first
      | (with_reducible exact impl_isInstr.mono _ _ _ _ _ _ _)
      | (with_reducible exact LeO.refl _)
      | (with_reducible exact LeO.none _)
      | (with_reducible refine LeO.ite ?_ ?_)
      | (with_reducible refine LeO.bind ?_ (fun _ => ?_))
      | exact impl_isInstr.mono _ _ _ _ _ _ _
      | exact LeO.none _
      | refine LeO.ite ?_ ?_
      | refine LeO.bind ?_ (fun _ => ?_)
set_option maxHeartbeats 8000000 in
set_option maxRecDepth 100000 in
theorem impl_FormatInstr.calls (k : Nat) (a0_0 : Int) (a0_1 : Int) (a0_2 : Int) (a0_3 : Int) (a0_4 : Int) (a0_5 : ByteArray) (r : ByteArray) (w : World) (h : impl_FormatInstr.f k a0_0 a0_1 a0_2 a0_3 a0_4 a0_5 = some r) (htab : Go.Proofs.YtmipaoobkjppdaaDoor.TabFnExactParseInstr.Tabs w) :
    Calls Tryd.prog 24 #[.agg #[.int .i64 a0_0, .int .i64 a0_1, .int .i64 a0_2, .int .i64 a0_3, .int .i64 a0_4, .string a0_5]] w fun e w' => e = .returned (.string r) ∧ Below w.heap.size w w' := by
  have HTAB := Aside0.mk htab
  clear htab
  have hu27 := Tryd.underlying27
  have HB := Aside0.mk (Below.refl w.heap.size w)
  have H : ((impl_isInstr.f k a0_0 a0_1 a0_2 a0_3 a0_4 a0_5).bind fun t215 => (if t215 = true then ((impl_formatInstr.f a0_0 a0_1 a0_2 a0_3 a0_4 a0_5).bind fun t216 => (some t216)) else (some (⟨#[]⟩ : ByteArray)))) = some r := h
  clear h
  replace H := Option.bind_eq_some_iff.mp H
  obtain ⟨t215, A20, H⟩ := H
  replace H : (if t215 = true then ((impl_formatInstr.f a0_0 a0_1 a0_2 a0_3 a0_4 a0_5).bind fun t216 => (some t216)) else (some (⟨#[]⟩ : ByteArray))) = some r := H
  have A2 := Aside0.mk A20
  clear A20
  by_cases c3 : t215 = true
  · subst c3
    have H1 : ((impl_formatInstr.f a0_0 a0_1 a0_2 a0_3 a0_4 a0_5).bind fun t216 => (some t216)) = some r := by rw [if_pos rfl] at H; exact H
    clear H
    have H := H1
    clear H1
    replace H := Option.bind_eq_some_iff.mp H
    obtain ⟨t216, A40, H⟩ := H
    replace H : (some t216) = some r := H
    have A4 := Aside0.mk A40
    clear A40
    obtain rfl := Option.some.inj H
    go_enter Tryd.func24, Tryd.ntmps24
    go_wp2_with (first | ((with_reducible refine gate_dst (N := 1) rfl ?_); refine box_event ?hg (N := 1) ?hd (cs := #[.int .i64 a0_0, .int .i64 a0_1, .int .i64 a0_2, .int .i64 a0_3, .int .i64 a0_4, .string a0_5]) (t := 27) ?hr ?_; (case hd => rfl); (case hg => rfl); (case hr => first | (go_simp; done) | (go_simp; rfl)); intro gb214 hg w5 hbox hb; have n0_ := Aside0.mk (below_step (by repeat (first | (with_reducible first | exact HB.out | apply below_alloc | apply pw_below_drewN | apply below_drew1) | exact HB.out)) hb); have n1_ := Aside0.mk (hbox); have n2_ := Aside0.mk ((by rw [hg]; exact (below_size (by repeat (first | (with_reducible first | exact HB.out | apply below_alloc | apply pw_below_drewN | apply below_drew1) | exact HB.out))) : w.heap.size ≤ gb214)); have n3_ := Aside0.mk ((by rw [hg]; exact (below_size (by repeat (first | (with_reducible first | exact HB.out | apply below_alloc | apply pw_below_drewN | apply below_drew1) | exact HB.out))) : w.heap.size ≤ gb214)); clear HB; have HB := n0_; have BK214 := n1_; have GW214 := n2_; have GE214 := n3_; clear n0_ n1_ n2_ n3_; clear hb hbox hg; have hcz6_0 : w5.cell? ⟨gb214, 0, none⟩ = some (.int .i64 a0_0) := (blk_cell BK214.out 0).trans rfl; have hcz6_1 : w5.cell? ⟨gb214, 1, none⟩ = some (.int .i64 a0_1) := (blk_cell BK214.out 1).trans rfl; have hcz6_2 : w5.cell? ⟨gb214, 2, none⟩ = some (.int .i64 a0_2) := (blk_cell BK214.out 2).trans rfl; have hcz6_3 : w5.cell? ⟨gb214, 3, none⟩ = some (.int .i64 a0_3) := (blk_cell BK214.out 3).trans rfl; have hcz6_4 : w5.cell? ⟨gb214, 4, none⟩ = some (.int .i64 a0_4) := (blk_cell BK214.out 4).trans rfl; have hcz6_5 : w5.cell? ⟨gb214, 5, none⟩ = some (.string a0_5) := (blk_cell BK214.out 5).trans rfl; have hfz6_0 := blk_frozen BK214.out 0; have hfz6_1 := blk_frozen BK214.out 1; have hfz6_2 := blk_frozen BK214.out 2; have hfz6_3 := blk_frozen BK214.out 3; have hfz6_4 := blk_frozen BK214.out 4; have hfz6_5 := blk_frozen BK214.out 5) | ((with_reducible refine gate_callee (f := 43) rfl ?_); refine goesL_ (some 4) rfl rfl Tryd.func43 (by kernel_rfl) rfl #[.agg #[.int .i64 a0_0, .int .i64 a0_1, .int .i64 a0_2, .int .i64 a0_3, .int .i64 a0_4, .string a0_5]] rfl (by (try simp only [List.map_toArray, List.map_cons, List.map_nil]); first | done | rfl | (simp only [List.length_drop, List.length_take]; rfl)) ?_; (with_reducible refine (impl_isInstr.calls k a0_0 a0_1 a0_2 a0_3 a0_4 a0_5 true _ A2.out).mono ?_); rintro e w7 ⟨rfl, hb⟩; refine ⟨_, rfl, ?_⟩; have n0_ := Aside0.mk (blk_below (g := gb214) (o := .cells #[.int .i64 a0_0, .int .i64 a0_1, .int .i64 a0_2, .int .i64 a0_3, .int .i64 a0_4, .string a0_5] 27 (0, 0)) (by (with_reducible repeat (first | refine blk_drewN ?_ _ | refine blk_drew ?_ | refine blk_alloc ?_ _)); exact BK214.out) hb); have n1_ := Aside0.mk (below_step (by repeat (first | (with_reducible first | exact HB.out | apply below_alloc | apply pw_below_drewN | apply below_drew1 | refine below_set ?_ GE214.out) | exact HB.out)) hb); clear BK214; clear HB; have BK214 := n0_; have HB := n1_; clear n0_ n1_; (try clear hb); (try clear hb2); (try clear hk); (try clear hi); have hcz8_0 : w7.cell? ⟨gb214, 0, none⟩ = some (.int .i64 a0_0) := (blk_cell BK214.out 0).trans rfl; have hcz8_1 : w7.cell? ⟨gb214, 1, none⟩ = some (.int .i64 a0_1) := (blk_cell BK214.out 1).trans rfl; have hcz8_2 : w7.cell? ⟨gb214, 2, none⟩ = some (.int .i64 a0_2) := (blk_cell BK214.out 2).trans rfl; have hcz8_3 : w7.cell? ⟨gb214, 3, none⟩ = some (.int .i64 a0_3) := (blk_cell BK214.out 3).trans rfl; have hcz8_4 : w7.cell? ⟨gb214, 4, none⟩ = some (.int .i64 a0_4) := (blk_cell BK214.out 4).trans rfl; have hcz8_5 : w7.cell? ⟨gb214, 5, none⟩ = some (.string a0_5) := (blk_cell BK214.out 5).trans rfl; have hfz8_0 := blk_frozen BK214.out 0; have hfz8_1 := blk_frozen BK214.out 1; have hfz8_2 := blk_frozen BK214.out 2; have hfz8_3 := blk_frozen BK214.out 3; have hfz8_4 := blk_frozen BK214.out 4; have hfz8_5 := blk_frozen BK214.out 5) | ((with_reducible refine gate_callee (f := 49) rfl ?_); refine goesL_ (some 7) rfl rfl Tryd.func49 (by kernel_rfl) rfl #[.agg #[.int .i64 a0_0, .int .i64 a0_1, .int .i64 a0_2, .int .i64 a0_3, .int .i64 a0_4, .string a0_5]] rfl (by (try simp only [List.map_toArray, List.map_cons, List.map_nil]); first | done | rfl | (simp only [List.length_drop, List.length_take]; rfl)) ?_; (with_reducible refine (impl_formatInstr.calls a0_0 a0_1 a0_2 a0_3 a0_4 a0_5 t216 _ A4.out ?tab2).mono ?_); (case tab2 => exact (HTAB.out).below (by repeat (first | (with_reducible first | exact HB.out | apply below_alloc | apply pw_below_drewN | apply below_drew1 | refine below_set ?_ GE214.out) | exact HB.out))); rintro e w9 ⟨rfl, hb⟩; refine ⟨_, rfl, ?_⟩; have n0_ := Aside0.mk (blk_below (g := gb214) (o := .cells #[.int .i64 a0_0, .int .i64 a0_1, .int .i64 a0_2, .int .i64 a0_3, .int .i64 a0_4, .string a0_5] 27 (0, 0)) (by (with_reducible repeat (first | refine blk_drewN ?_ _ | refine blk_drew ?_ | refine blk_alloc ?_ _)); exact BK214.out) hb); have n1_ := Aside0.mk (below_step (by repeat (first | (with_reducible first | exact HB.out | apply below_alloc | apply pw_below_drewN | apply below_drew1 | refine below_set ?_ GE214.out) | exact HB.out)) hb); clear BK214; clear HB; have BK214 := n0_; have HB := n1_; clear n0_ n1_; (try clear hb); (try clear hb2); (try clear hk); (try clear hi)))
    go_ret
    exact ⟨by first | rfl | (simp [errW_none, errW_some] <;> rfl) | (simp [*, errW_none, errW_some] <;> rfl), by repeat (first | (with_reducible first | exact HB.out | apply below_alloc | apply pw_below_drewN | apply below_drew1 | refine below_set ?_ GE214.out) | exact HB.out)⟩
  · replace c3 := Bool.eq_false_iff.mpr c3
    subst c3
    have H1 : (some (⟨#[]⟩ : ByteArray)) = some r := by rw [if_neg (show ¬ (false = true) by decide)] at H; exact H
    clear H
    have H := H1
    clear H1
    obtain rfl := Option.some.inj H
    go_enter Tryd.func24, Tryd.ntmps24
    go_wp2_with (first | ((with_reducible refine gate_dst (N := 1) rfl ?_); refine box_event ?hg (N := 1) ?hd (cs := #[.int .i64 a0_0, .int .i64 a0_1, .int .i64 a0_2, .int .i64 a0_3, .int .i64 a0_4, .string a0_5]) (t := 27) ?hr ?_; (case hd => rfl); (case hg => rfl); (case hr => first | (go_simp; done) | (go_simp; rfl)); intro gb214 hg w10 hbox hb; have n0_ := Aside0.mk (below_step (by repeat (first | (with_reducible first | exact HB.out | apply below_alloc | apply pw_below_drewN | apply below_drew1) | exact HB.out)) hb); have n1_ := Aside0.mk (hbox); have n2_ := Aside0.mk ((by rw [hg]; exact (below_size (by repeat (first | (with_reducible first | exact HB.out | apply below_alloc | apply pw_below_drewN | apply below_drew1) | exact HB.out))) : w.heap.size ≤ gb214)); have n3_ := Aside0.mk ((by rw [hg]; exact (below_size (by repeat (first | (with_reducible first | exact HB.out | apply below_alloc | apply pw_below_drewN | apply below_drew1) | exact HB.out))) : w.heap.size ≤ gb214)); clear HB; have HB := n0_; have BK214 := n1_; have GW214 := n2_; have GE214 := n3_; clear n0_ n1_ n2_ n3_; clear hb hbox hg; have hcz11_0 : w10.cell? ⟨gb214, 0, none⟩ = some (.int .i64 a0_0) := (blk_cell BK214.out 0).trans rfl; have hcz11_1 : w10.cell? ⟨gb214, 1, none⟩ = some (.int .i64 a0_1) := (blk_cell BK214.out 1).trans rfl; have hcz11_2 : w10.cell? ⟨gb214, 2, none⟩ = some (.int .i64 a0_2) := (blk_cell BK214.out 2).trans rfl; have hcz11_3 : w10.cell? ⟨gb214, 3, none⟩ = some (.int .i64 a0_3) := (blk_cell BK214.out 3).trans rfl; have hcz11_4 : w10.cell? ⟨gb214, 4, none⟩ = some (.int .i64 a0_4) := (blk_cell BK214.out 4).trans rfl; have hcz11_5 : w10.cell? ⟨gb214, 5, none⟩ = some (.string a0_5) := (blk_cell BK214.out 5).trans rfl; have hfz11_0 := blk_frozen BK214.out 0; have hfz11_1 := blk_frozen BK214.out 1; have hfz11_2 := blk_frozen BK214.out 2; have hfz11_3 := blk_frozen BK214.out 3; have hfz11_4 := blk_frozen BK214.out 4; have hfz11_5 := blk_frozen BK214.out 5) | ((with_reducible refine gate_callee (f := 43) rfl ?_); refine goesL_ (some 4) rfl rfl Tryd.func43 (by kernel_rfl) rfl #[.agg #[.int .i64 a0_0, .int .i64 a0_1, .int .i64 a0_2, .int .i64 a0_3, .int .i64 a0_4, .string a0_5]] rfl (by (try simp only [List.map_toArray, List.map_cons, List.map_nil]); first | done | rfl | (simp only [List.length_drop, List.length_take]; rfl)) ?_; (with_reducible refine (impl_isInstr.calls k a0_0 a0_1 a0_2 a0_3 a0_4 a0_5 false _ A2.out).mono ?_); rintro e w12 ⟨rfl, hb⟩; refine ⟨_, rfl, ?_⟩; have n0_ := Aside0.mk (blk_below (g := gb214) (o := .cells #[.int .i64 a0_0, .int .i64 a0_1, .int .i64 a0_2, .int .i64 a0_3, .int .i64 a0_4, .string a0_5] 27 (0, 0)) (by (with_reducible repeat (first | refine blk_drewN ?_ _ | refine blk_drew ?_ | refine blk_alloc ?_ _)); exact BK214.out) hb); have n1_ := Aside0.mk (below_step (by repeat (first | (with_reducible first | exact HB.out | apply below_alloc | apply pw_below_drewN | apply below_drew1 | refine below_set ?_ GE214.out) | exact HB.out)) hb); clear BK214; clear HB; have BK214 := n0_; have HB := n1_; clear n0_ n1_; (try clear hb); (try clear hb2); (try clear hk); (try clear hi)))
    go_ret
    exact ⟨by first | rfl | (simp [errW_none, errW_some] <;> rfl) | (simp [*, errW_none, errW_some] <;> rfl), by repeat (first | (with_reducible first | exact HB.out | apply below_alloc | apply pw_below_drewN | apply below_drew1 | refine below_set ?_ GE214.out) | exact HB.out)⟩

/-! ### strings_Split: function 63 (by hand) -/
def strings_Split.f (a0 a1 : ByteArray) : Option (List ByteArray) := if a0.size < 4294967281 ∧ a1.size = 1 then some (Go.Lib.splitB a1 0 (Go.Lib.countB a0 a1) a0) else none
theorem strings_Split.calls (a0 a1 : ByteArray) (r : List ByteArray) (w : World) (h : strings_Split.f a0 a1 = some r) (htab : Go.Proofs.YtmipaoobkjppdaaDoor.TabFnExactParseInstr.Tabs w) :
    Calls Tryd.prog 63 #[.string a0, .string a1] w fun e w' => ∃ v0_ : Value, e = .returned v0_ ∧ Kd.R Kd.string 9 w' w.heap.size (fun _ => True) v0_ r ∧ Below w.heap.size w w' := by
  unfold strings_Split.f at h
  by_cases c : a0.size < 4294967281 ∧ a1.size = 1
  · rw [if_pos c] at h
    obtain rfl := Option.some.inj h
    obtain ⟨m, hm⟩ := htab.maxLen
    have hl := Go.Lib.splitB_all a1 (by omega) 0 _ a0 rfl
    have hz := Go.Lib.countB_le a1 (by omega) a0.size a0 (Nat.le_refl _)
    have hc : Calls Tryd.prog 63 #[.string a0, .string a1] w _ := Go.Proofs.Any.strings_Split (ρ := Tryd.lay146_ren) { Tryd.lay146 with } Tryd.lay146.i9 a0 a1 m w c.1 hm (by omega)
    refine hc.mono ?_
    rintro e w' ⟨rfl, rfl⟩
    refine ⟨_, rfl, Kd.R_of_own ?_ (fun _ _ => trivial), below_alloc (Below.refl _ _) _⟩
    have ho := own_lit_of (enc := Value.string) w w.heap.size 9 (Go.Lib.splitB a1 0 (Go.Lib.countB a0 a1) a0) (Nat.le_refl _) (by omega)
    rw [hl] at ho ⊢
    exact ho
  · rw [if_neg c] at h
    exact absurd h (by simp)


/-! ### slices_Index_string_string: function 64 -/
def slices_Index_string_string.l0 : Nat → List ByteArray → ByteArray → Int → Int → Option (Int)
  | 0, _, _, _, _ => none
  | k + 1, x0, x1, x7, x8 => if x8 < x7 then (if 0 ≤ x8 then (if x8 < (x0.length : Int) then (if x1.toList = (rdOf ByteArray.empty x0 x8).toList then (some x8) else (slices_Index_string_string.l0 k x0 x1 x7 (wrap64 (x8 + 1)))) else (none)) else (none)) else (some (-1))
def slices_Index_string_string.f (k : Nat) (l0 : List ByteArray) (a1 : ByteArray) : Option (Int) := slices_Index_string_string.l0 k l0 a1 (l0.length : Int) 0
theorem slices_Index_string_string.mono_l : ∀ k, (∀ y0 y1 y2 y3, LeO (slices_Index_string_string.l0 k y0 y1 y2 y3) (slices_Index_string_string.l0 (k + 1) y0 y1 y2 y3))
  | 0 => fun _ _ _ _ r h => by simp [slices_Index_string_string.l0] at h
  | k + 1 => by
    have ih0 := slices_Index_string_string.mono_l k
    · intro y0 y1 y2 y3
      unfold slices_Index_string_string.l0
      repeat' first
      | (with_reducible exact ih0 _ _ _ _)
      | (with_reducible exact LeO.refl _)
      | (with_reducible exact LeO.none _)
      | (with_reducible refine LeO.ite ?_ ?_)
      | (with_reducible refine LeO.bind ?_ (fun _ => ?_))
      | exact ih0 _ _ _ _
      | exact LeO.none _
      | refine LeO.ite ?_ ?_
      | refine LeO.bind ?_ (fun _ => ?_)
theorem slices_Index_string_string.mono : ∀ a0 a1 k, LeO (slices_Index_string_string.f k a0 a1) (slices_Index_string_string.f (k + 1) a0 a1) := by
  intro a0 a1 k
  have ih0 := slices_Index_string_string.mono_l k
  unfold slices_Index_string_string.f
  repeat' first
      | (with_reducible exact ih0 _ _ _ _)
      | (with_reducible exact LeO.refl _)
      | (with_reducible exact LeO.none _)
      | (with_reducible refine LeO.ite ?_ ?_)
      | (with_reducible refine LeO.bind ?_ (fun _ => ?_))
      | exact ih0 _ _ _ _
      | exact LeO.none _
      | refine LeO.ite ?_ ?_
      | refine LeO.bind ?_ (fun _ => ?_)
set_option maxHeartbeats 8000000 in
set_option maxRecDepth 100000 in
theorem slices_Index_string_string.calls (k : Nat) (A0 : Option Addr) (c0 : Nat) (l0 : List ByteArray) (a1 : ByteArray) (r : Int) (w : World) (hr0 : Kd.C Kd.string w A0 l0.length l0) (hc0 : l0.length ≤ c0) (h : slices_Index_string_string.f k l0 a1 = some r) :
    Calls Tryd.prog 64 #[.slice A0 l0.length c0, .string a1] w fun e w' => e = .returned (.int .i64 r) ∧ Drawn0 w w' := by
  have HR0 := Aside0.mk hr0
  have HC0 := Aside0.mk hc0
  clear hr0 hc0
  have H : (slices_Index_string_string.l0 k l0 a1 (l0.length : Int) 0) = some r := h
  clear h
  have H' := Aside0.mk H
  clear H
  go_enter Tryd.func64, Tryd.ntmps64
  go_wp2
  go_loopg [8] k (fun kq v8 w' => ∃ (x8_1 : Int), v8 = .int .i64 x8_1 ∧ Aside0 (slices_Index_string_string.l0 kq l0 a1 (l0.length : Int) x8_1 = some r) ∧ Aside0 (kq ≤ k) ∧ Drawn0 w w')
  case atStart => exact ⟨(0), (by first | rfl | (simp; done) | (simp [*]; done)), H', ⟨Nat.le_refl _⟩, by repeat (first | exact Drawn0.refl _ | apply Drawn0.step)⟩
  case round =>
    clear H'
    try clear p2
    obtain ⟨x8_1, rfl, HA, HK1, ⟨m1, rfl⟩⟩ := hrel
    cases gk with
    | zero => exact absurd HA.out (by simp [slices_Index_string_string.l0])
    | succ k1 =>
      have H := HA.out
      clear HA
      simp only [slices_Index_string_string.l0] at H
      by_cases c3 : x8_1 < (l0.length : Int)
      · rw [if_pos c3] at H
        have c3b0 : decide (x8_1 < (l0.length : Int)) = true := decide_eq_true c3
        clear c3
        by_cases c4 : 0 ≤ x8_1
        · rw [if_pos c4] at H
          have c4b0 : decide (0 ≤ x8_1) = true := decide_eq_true c4
          clear c4
          by_cases c5 : x8_1 < (l0.length : Int)
          · rw [if_pos c5] at H
            have c5b0 : decide (x8_1 < (l0.length : Int)) = true := decide_eq_true c5
            clear c5
            by_cases c6 : a1.toList = (rdOf ByteArray.empty l0 x8_1).toList
            · rw [if_pos c6] at H
              have c6b0 : (a1.toList == (rdOf ByteArray.empty l0 x8_1).toList) = true := beq_iff_eq.mpr c6
              have c6b1 : (a1.toList != (rdOf ByteArray.empty l0 x8_1).toList) = false := bne_eq_false_iff_eq.mpr c6
              clear c6
              obtain rfl := Option.some.inj H
              have p217 : 0 ≤ (x8_1 : Int) := of_decide_eq_true (by first | (with_reducible assumption) | assumption)
              have q217 : x8_1 < (l0.length : Int) := of_decide_eq_true (by first | (with_reducible assumption) | assumption)
              obtain ⟨ad217, e217, hx217_0⟩ := Kd.at_string HR0.out x8_1 p217 q217
              cases e217
              replace p217 := eq_true p217
              replace q217 := eq_true q217
              go_wp2
              go_ret
              exact ⟨by first | rfl | (simp; done) | (simp [*]; done), by repeat (first | exact Drawn0.refl _ | apply Drawn0.step)⟩
            · rw [if_neg c6] at H
              have c6b0 : (a1.toList == (rdOf ByteArray.empty l0 x8_1).toList) = false := beq_eq_false_iff_ne.mpr c6
              have c6b1 : (a1.toList != (rdOf ByteArray.empty l0 x8_1).toList) = true := bne_iff_ne.mpr c6
              have H' := Aside0.mk H
              clear H
              have p217 : 0 ≤ (x8_1 : Int) := of_decide_eq_true (by first | (with_reducible assumption) | assumption)
              have q217 : x8_1 < (l0.length : Int) := of_decide_eq_true (by first | (with_reducible assumption) | assumption)
              obtain ⟨ad217, e217, hx217_0⟩ := Kd.at_string HR0.out x8_1 p217 q217
              cases e217
              replace p217 := eq_true p217
              replace q217 := eq_true q217
              go_wp2
              go_roundg k1
              case measure => have := HK1.out; omega
              case rel => exact ⟨(wrap64 (x8_1 + 1)), (by first | rfl | (simp; done) | (simp [*]; done)), H', ⟨by have := HK1.out; omega⟩, by repeat (first | exact Drawn0.refl _ | apply Drawn0.step)⟩
          · rw [if_neg c5] at H
            exact absurd H (by simp)
        · rw [if_neg c4] at H
          exact absurd H (by simp)
      · rw [if_neg c3] at H
        have c3b0 : decide (x8_1 < (l0.length : Int)) = false := decide_eq_false c3
        clear c3
        obtain rfl := Option.some.inj H
        go_wp2
        go_ret
        exact ⟨by first | rfl | (simp; done) | (simp [*]; done), by repeat (first | exact Drawn0.refl _ | apply Drawn0.step)⟩

/-! ### strconv_Atoi: function 65 (by hand) -/
theorem strconv_Atoi.ok (s : ByteArray) (hs : s.size ≤ 281474976710656) (v : Int) (h : Go.Lib.atoiAll s.data.toList = .ok v) (w : World) :
    Calls Tryd.prog 65 #[.string s] w fun e w' => e = .returned (.tuple #[.int .i64 v, .nilIface]) ∧ Below w.heap.size w w' := by
  have hc : Calls Tryd.prog 65 #[.string s] w _ := Go.Proofs.Any.strconv_Atoi_ok Tryd.lay172 s (by omega) v h w
  refine hc.mono ?_
  rintro e w' ⟨rfl, hW⟩
  refine ⟨rfl, ?_⟩
  rcases hW with rfl | ⟨t, rfl⟩
  · exact Below.refl _ _
  · exact Go.Lib.bytesWorld_below _ _ _
theorem strconv_Atoi.bad (s : ByteArray) (hs : s.size ≤ 281474976710656) (h : ∀ v, Go.Lib.atoiAll s.data.toList ≠ .ok v) (w : World) (htab : Go.Proofs.YtmipaoobkjppdaaDoor.TabFnExactParseInstr.Tabs w) :
    Calls Tryd.prog 65 #[.string s] w fun e w' => (∃ v N T, e = .returned (.tuple #[.int .i64 v, .iface T (.pointer (some ⟨N, 0, none⟩))])) ∧ Below w.heap.size w w' := by
  cases ha : Go.Lib.atoiAll s.data.toList with
  | ok v => exact absurd ha (h v)
  | range =>
    obtain ⟨tp, p, hv⟩ := htab.errRange
    have hc : Calls Tryd.prog 65 #[.string s] w _ := Go.Proofs.Any.strconv_Atoi_range Tryd.lay172 s hs ha (.iface tp p) w (by have h0 := World.var?_cell Tryd.lay172.m16 hv 0; simpa using h0) (Or.inr ⟨tp, p, rfl⟩)
    refine hc.mono ?_
    rintro e w' ⟨N, rfl, _, _, hb⟩
    exact ⟨⟨_, N, _, rfl⟩, hb⟩
  | _ =>
    obtain ⟨tp, p, hv⟩ := htab.errSyntax
    have hc : Calls Tryd.prog 65 #[.string s] w _ := Go.Proofs.Any.strconv_Atoi_syntax Tryd.lay172 s hs ha (.iface tp p) w (by have h0 := World.var?_cell Tryd.lay172.m15 hv 0; simpa using h0) (Or.inr ⟨tp, p, rfl⟩)
    refine hc.mono ?_
    rintro e w' ⟨N, rfl, _, _, hb⟩
    exact ⟨⟨_, N, _, rfl⟩, hb⟩


end Go.Proofs.YtmipaoobkjppdaaDoor.QFnExactParseInstr
