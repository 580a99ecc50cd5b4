-- Written by a program of this session, after the kit's print, with contracts by hand.
import Derived.Test.YtmipaoobkjppdaaQFnExactDeriveFromStringx0
import Derived.Test.YtmipaoobkjppdaaQFnExactDeriveFromStringx1
namespace Go.Proofs.Ytmipaoobkjppdaa.QFnExactDeriveFromString
open Go.RowKit Go.Proofs.YtmipaoobkjppdaaW.PrintWords Go.Proofs.YtmipaoobkjppdaaW.PrintLast Go.Proofs.YtmipaoobkjppdaaW.PrintMore
attribute [local go_sem] max2_int min2_int max_two min_two max_three min_three max_four min_four   -- for this text's walks alone
set_option linter.unusedVariables false
set_option linter.unusedSimpArgs false

/-! ### impl_DeriveFromString: function 13 (by hand) -/
def impl_DeriveFromString.f (k : Nat) (a0 : Int) (a1 : ByteArray) : Option Int := if a1.size ≤ 140737488355328 then (impl_BytesToInts.f k (bytesOf a1)).bind fun l => (impl_KeyedHash.f k a0 l).bind fun v => some (if v < 1 then 1 else v) else none
theorem impl_DeriveFromString.mono : ∀ a0 a1 k, LeO (impl_DeriveFromString.f k a0 a1) (impl_DeriveFromString.f (k + 1) a0 a1) := by
  intro a0 a1 k
  unfold impl_DeriveFromString.f
  exact LeO.ite (LeO.bind (impl_BytesToInts.mono _ _) fun _ => LeO.bind (impl_KeyedHash.mono _ _ _) fun _ => LeO.refl _) (LeO.refl _)
theorem impl_DeriveFromString.bti (k : Nat) (s : ByteArray) (l : List Int) (W : World) (hs : s.size ≤ 9223372036854775807) (h : impl_BytesToInts.f k (bytesOf s) = some l) :
    Calls Try.prog 19 #[.slice (some ⟨W.heap.size, 0, none⟩) s.size (grownCap W s.size 0 5)] (Go.Lib.bytesWorld W 5 s) fun e w' => ∃ v0_ : Value, e = .returned (v0_) ∧ Kd.R (Kd.int .i64) 3 w' (Go.Lib.bytesWorld W 5 s).heap.size (fun _ => True) v0_ l ∧ Below (Go.Lib.bytesWorld W 5 s).heap.size (Go.Lib.bytesWorld W 5 s) w' := by
  have hc := impl_BytesToInts.calls k (some ⟨W.heap.size, 0, none⟩) (grownCap W s.size 0 5) (bytesOf s) l (Go.Lib.bytesWorld W 5 s) (by rw [bytesOf_length]; exact Kd.C_of_reads (d := (0 : Int)) (bytes_reads W 5 s hs)) (by rw [bytesOf_length]; exact grownCap_ge W s.size 0 5) h
  rw [bytesOf_length] at hc
  exact hc
theorem impl_DeriveFromString.tov {w : World} {b : Nat} {A_ : Option Addr} {c_ : Nat} {l : List Int} (h : Kd.R (Kd.int .i64) 3 w b (fun _ => True) (.slice A_ l.length c_) l) : Kd.V (Kd.int .i64) 3 w w.heap.size (fun _ => True) (.slice A_ l.length c_) l := by
  exact Kd.V_mk (Kd.R_reads' h).2.1 (fun W' hm => (Kd.R_reads' (Kd.R_step h (fun k _ hk => hm k trivial hk))).2.2)
set_option maxHeartbeats 8000000 in
set_option maxRecDepth 100000 in
theorem impl_DeriveFromString.calls (k : Nat) (a0 : Int) (a1 : ByteArray) (r : Int) (w : World) (h : impl_DeriveFromString.f k a0 a1 = some r) :
    Calls Try.prog 13 #[.int .i64 a0, .string a1] w fun e w' => e = .returned (.int .i64 r) ∧ Below w.heap.size w w' := by
  have kb := fun W => print_bytes (P := Try.prog) 9 38 5 Try.underlying9 Try.underlying38 Try.underlying5 a1 W
  have HB := Aside0.mk (Below.refl w.heap.size w)
  unfold impl_DeriveFromString.f at h
  by_cases c : a1.size ≤ 140737488355328
  · rw [if_pos c] at h
    have H0 := Aside0.mk c
    clear c
    obtain ⟨l, A1_, h⟩ := Option.bind_eq_some_iff.mp h
    have A1 := Aside0.mk A1_
    clear A1_
    obtain ⟨v, A2_, A3_⟩ := Option.bind_eq_some_iff.mp h
    have A2 := Aside0.mk A2_
    clear A2_ h
    obtain rfl := Option.some.inj A3_
    clear A3_
    by_cases cm : v < 1
    · rw [if_pos cm]
      have cmb := eq_true cm
      clear cm
      go_enter Try.func13, Try.ntmps13
      go_wp2_with (first | (go_at_call 19; refine (impl_DeriveFromString.bti k a1 l _ (by have := H0.out; omega) A1.out).mono ?_; rintro e w' ⟨v0, rfl, ho, hb⟩; obtain ⟨A_, c_, ev, hcl, hC⟩ := Kd.R_reads ho; subst ev; have n0_ := Aside0.mk (below_step (by exact bytes_below HB.out (below_size HB.out) 5 a1) hb); have HC := Aside0.mk hC; have HL := Aside0.mk hcl; have HO := Aside0.mk ho; clear HB; have HB := n0_; clear n0_ hb hC hcl ho) | (go_at_call 18; refine (impl_KeyedHash.calls k a0 (fun _ => True) A_ c_ l v _ ?s1 A2.out).mono ?_; (case s1 => exact impl_DeriveFromString.tov HO.out); rintro e w' ⟨rfl, hb⟩; have n0_ := Aside0.mk (below_step (by repeat (first | (with_reducible first | exact HB.out | apply below_alloc | apply pw_below_drewN | apply below_drew1) | exact HB.out)) hb); clear HB; have HB := n0_; clear n0_ hb))
      go_ret
      exact ⟨by first | rfl | (simp; done), by repeat (first | (with_reducible first | exact HB.out | apply below_alloc | apply pw_below_drewN | apply below_drew1) | exact HB.out)⟩
    · rw [if_neg cm]
      have cmb := eq_false cm
      clear cm
      go_enter Try.func13, Try.ntmps13
      go_wp2_with (first | (go_at_call 19; refine (impl_DeriveFromString.bti k a1 l _ (by have := H0.out; omega) A1.out).mono ?_; rintro e w' ⟨v0, rfl, ho, hb⟩; obtain ⟨A_, c_, ev, hcl, hC⟩ := Kd.R_reads ho; subst ev; have n0_ := Aside0.mk (below_step (by exact bytes_below HB.out (below_size HB.out) 5 a1) hb); have HC := Aside0.mk hC; have HL := Aside0.mk hcl; have HO := Aside0.mk ho; clear HB; have HB := n0_; clear n0_ hb hC hcl ho) | (go_at_call 18; refine (impl_KeyedHash.calls k a0 (fun _ => True) A_ c_ l v _ ?s1 A2.out).mono ?_; (case s1 => exact impl_DeriveFromString.tov HO.out); rintro e w' ⟨rfl, hb⟩; have n0_ := Aside0.mk (below_step (by repeat (first | (with_reducible first | exact HB.out | apply below_alloc | apply pw_below_drewN | apply below_drew1) | exact HB.out)) hb); clear HB; have HB := n0_; clear n0_ hb))
      go_ret
      exact ⟨by first | rfl | (simp; done), by repeat (first | (with_reducible first | exact HB.out | apply below_alloc | apply pw_below_drewN | apply below_drew1) | exact HB.out)⟩
  · rw [if_neg c] at h
    exact absurd h (by simp)


/-! ### laws_FnExactDeriveFromString: function 4 -/
def laws_FnExactDeriveFromString.f (k : Nat) (a0 : Int) (a1 : ByteArray) : Option (Bool) := if (a1.size : Int) > 1048576 then (some true) else ((spec_DeriveFromString.f k a0 a1).bind fun t144 => ((impl_DeriveFromString.f k a0 a1).bind fun t145 => (if t145 = t144 then (some true) else (some false))))
theorem laws_FnExactDeriveFromString.mono : ∀ a0 a1 k, LeO (laws_FnExactDeriveFromString.f k a0 a1) (laws_FnExactDeriveFromString.f (k + 1) a0 a1) := by
  intro a0 a1 k
  unfold laws_FnExactDeriveFromString.f
  repeat' first
      | (with_reducible exact impl_DeriveFromString.mono _ _ _)
      | (with_reducible exact spec_DeriveFromString.mono _ _ _)
      | (with_reducible exact LeO.refl _)
      | (with_reducible exact LeO.none _)
      | (with_reducible refine LeO.ite ?_ ?_)
      | (with_reducible refine LeO.bind ?_ (fun _ => ?_))
      | exact impl_DeriveFromString.mono _ _ _
      | exact spec_DeriveFromString.mono _ _ _
      | exact LeO.none _
      | refine LeO.ite ?_ ?_
      | refine LeO.bind ?_ (fun _ => ?_)
set_option maxHeartbeats 8000000 in
set_option maxRecDepth 100000 in
theorem laws_FnExactDeriveFromString.calls (k : Nat) (a0 : Int) (a1 : ByteArray) (r : Bool) (w : World) (h : laws_FnExactDeriveFromString.f k a0 a1 = some r) :
    Calls Try.prog 4 #[.int .i64 a0, .string a1] w fun e w' => e = .returned (.bool r) ∧ Below w.heap.size w w' := by
  have HB := Aside0.mk (Below.refl w.heap.size w)
  have H : (if (a1.size : Int) > 1048576 then (some true) else ((spec_DeriveFromString.f k a0 a1).bind fun t144 => ((impl_DeriveFromString.f k a0 a1).bind fun t145 => (if t145 = t144 then (some true) else (some false))))) = some r := h
  clear h
  by_cases c3 : (a1.size : Int) > 1048576
  · rw [if_pos c3] at H
    have c3b0 : decide (1048576 < (a1.size : Int)) = true := decide_eq_true c3
    have c3b1 : decide (1048576 < a1.size) = true := decide_eq_true (by omega)
    clear c3
    obtain rfl := Option.some.inj H
    go_enter Try.func4, Try.ntmps4
    go_wp2
    go_ret
    exact ⟨by first | rfl | (simp [errW_none, errW_some] <;> rfl) | (simp [*, errW_none, errW_some] <;> rfl), by repeat (first | (with_reducible first | exact HB.out | apply below_alloc | apply pw_below_drewN | apply below_drew1) | exact HB.out)⟩
  · rw [if_neg c3] at H
    have c3b0 : decide (1048576 < (a1.size : Int)) = false := decide_eq_false c3
    have c3b1 : decide (1048576 < a1.size) = false := decide_eq_false (by omega)
    clear c3
    replace H := Option.bind_eq_some_iff.mp H
    obtain ⟨t144, A40, H⟩ := H
    replace H : ((impl_DeriveFromString.f k a0 a1).bind fun t145 => (if t145 = t144 then (some true) else (some false))) = some r := H
    have A4 := Aside0.mk A40
    clear A40
    replace H := Option.bind_eq_some_iff.mp H
    obtain ⟨t145, A50, H⟩ := H
    replace H : (if t145 = t144 then (some true) else (some false)) = some r := H
    have A5 := Aside0.mk A50
    clear A50
    by_cases c6 : t145 = t144
    · rw [if_pos c6] at H
      have c6b0 : (t145 == t144) = true := beq_iff_eq.mpr c6
      have c6b1 : (t145 != t144) = false := bne_eq_false_iff_eq.mpr c6
      clear c6
      obtain rfl := Option.some.inj H
      go_enter Try.func4, Try.ntmps4
      go_wp2_with (first | ((with_reducible refine gate_callee (f := 12) rfl ?_); refine goesL_ (some 12) rfl rfl Try.func12 (by kernel_rfl) rfl #[.int .i64 a0, .string a1] rfl (by (try simp only [List.map_toArray, List.map_cons, List.map_nil]); first | done | rfl | (simp only [List.length_drop, List.length_take]; rfl)) ?_; (with_reducible refine (spec_DeriveFromString.calls k a0 a1 t144 _ A4.out).mono ?_); rintro e w7 ⟨rfl, hb⟩; refine ⟨_, rfl, ?_⟩; have n0_ := Aside0.mk (below_step (by repeat (first | (with_reducible first | exact HB.out | apply below_alloc | apply pw_below_drewN | apply below_drew1) | exact HB.out)) hb); clear HB; have HB := n0_; clear n0_; (try clear hb); (try clear hb2); (try clear hk); (try clear hi)) | ((with_reducible refine gate_callee (f := 13) rfl ?_); refine goesL_ (some 15) rfl rfl Try.func13 (by kernel_rfl) rfl #[.int .i64 a0, .string a1] rfl (by (try simp only [List.map_toArray, List.map_cons, List.map_nil]); first | done | rfl | (simp only [List.length_drop, List.length_take]; rfl)) ?_; (with_reducible refine (impl_DeriveFromString.calls k a0 a1 t145 _ A5.out).mono ?_); rintro e w8 ⟨rfl, hb⟩; refine ⟨_, rfl, ?_⟩; have n0_ := Aside0.mk (below_step (by repeat (first | (with_reducible first | exact HB.out | apply below_alloc | apply pw_below_drewN | apply below_drew1) | exact HB.out)) hb); clear HB; have HB := n0_; clear n0_; (try clear hb); (try clear hb2); (try clear hk); (try clear hi)))
      go_ret
      exact ⟨by first | rfl | (simp [errW_none, errW_some] <;> rfl) | (simp [*, errW_none, errW_some] <;> rfl), by repeat (first | (with_reducible first | exact HB.out | apply below_alloc | apply pw_below_drewN | apply below_drew1) | exact HB.out)⟩
    · rw [if_neg c6] at H
      have c6b0 : (t145 == t144) = false := beq_eq_false_iff_ne.mpr c6
      have c6b1 : (t145 != t144) = true := bne_iff_ne.mpr c6
      obtain rfl := Option.some.inj H
      go_enter Try.func4, Try.ntmps4
      go_wp2_with (first | ((with_reducible refine gate_callee (f := 12) rfl ?_); refine goesL_ (some 12) rfl rfl Try.func12 (by kernel_rfl) rfl #[.int .i64 a0, .string a1] rfl (by (try simp only [List.map_toArray, List.map_cons, List.map_nil]); first | done | rfl | (simp only [List.length_drop, List.length_take]; rfl)) ?_; (with_reducible refine (spec_DeriveFromString.calls k a0 a1 t144 _ A4.out).mono ?_); rintro e w9 ⟨rfl, hb⟩; refine ⟨_, rfl, ?_⟩; have n0_ := Aside0.mk (below_step (by repeat (first | (with_reducible first | exact HB.out | apply below_alloc | apply pw_below_drewN | apply below_drew1) | exact HB.out)) hb); clear HB; have HB := n0_; clear n0_; (try clear hb); (try clear hb2); (try clear hk); (try clear hi)) | ((with_reducible refine gate_callee (f := 13) rfl ?_); refine goesL_ (some 15) rfl rfl Try.func13 (by kernel_rfl) rfl #[.int .i64 a0, .string a1] rfl (by (try simp only [List.map_toArray, List.map_cons, List.map_nil]); first | done | rfl | (simp only [List.length_drop, List.length_take]; rfl)) ?_; (with_reducible refine (impl_DeriveFromString.calls k a0 a1 t145 _ A5.out).mono ?_); rintro e w10 ⟨rfl, hb⟩; refine ⟨_, rfl, ?_⟩; have n0_ := Aside0.mk (below_step (by repeat (first | (with_reducible first | exact HB.out | apply below_alloc | apply pw_below_drewN | apply below_drew1) | exact HB.out)) hb); clear HB; have HB := n0_; clear n0_; (try clear hb); (try clear hb2); (try clear hk); (try clear hi)))
      go_ret
      exact ⟨by first | rfl | (simp [errW_none, errW_some] <;> rfl) | (simp [*, errW_none, errW_some] <;> rfl), by repeat (first | (with_reducible first | exact HB.out | apply below_alloc | apply pw_below_drewN | apply below_drew1) | exact HB.out)⟩

/-- THE ONE PURE STATEMENT of laws_FnExactDeriveFromString: yours. -/
def laws_FnExactDeriveFromString.Pure : Prop := ∀ (a0 : Int) (a1 : ByteArray), (Lit.int .i64 a0).wf = true → a1.size ≤ 140737488351232 → ∃ k, laws_FnExactDeriveFromString.f k a0 a1 = some true
theorem laws_FnExactDeriveFromString.walk (P : laws_FnExactDeriveFromString.Pure) (a0 : Int) (a1 : ByteArray) (w : World) (w0 : (Lit.int .i64 a0).wf = true) (w1 : a1.size ≤ 140737488351232) :
    Calls Try.prog 4 #[.int .i64 a0, .string a1] w fun e w' => e = .returned (.bool true) ∧ Below w.heap.size w w' := by
  obtain ⟨k, h⟩ := P a0 a1 w0 w1
  refine (laws_FnExactDeriveFromString.calls k a0 a1 true w h).mono ?_
  rintro e w' ⟨rfl, hd⟩
  exact ⟨rfl, hd⟩

end Go.Proofs.Ytmipaoobkjppdaa.QFnExactDeriveFromString
