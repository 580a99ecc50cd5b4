-- Written by a program of this session, after the kit's print, with contracts by hand.
import Derived.Test.YtmipaoobkjppdaaDoorQFnExactFormatLibraryx0
import Derived.Test.YtmipaoobkjppdaaDoorQFnExactFormatLibraryx9
namespace Go.Proofs.YtmipaoobkjppdaaDoor.QFnExactFormatLibrary
open Go.RowKit Go.Proofs.YtmipaoobkjppdaaDoorW.PrintWords Go.Proofs.YtmipaoobkjppdaaDoorW.PrintLast Go.Proofs.YtmipaoobkjppdaaDoorW.PrintMore
attribute [local go_sem] max2_int min2_int max_two min_two max_three min_three max_four min_four   -- for this text's walks alone
set_option linter.unusedVariables false
set_option linter.unusedSimpArgs false

/-! ### impl_formatInstr_1: function 74 (by hand) -/
theorem impl_formatInstr_1.fi (n : Int) (h0 : -9223372036854775808 ≤ n) (h1 : n ≤ 9223372036854775807) : impl_FormatInt.f n = some (⟨(Go.Lib.itoa n).toArray⟩ : ByteArray) := by
  unfold impl_FormatInt.f strconv_Itoa.f
  rw [if_pos h0, if_pos h1]
  rfl
def impl_formatInstr_1.S (n : Int) : ByteArray := ⟨(Go.Lib.itoa n).toArray⟩
set_option maxHeartbeats 8000000 in
set_option maxRecDepth 100000 in
theorem impl_formatInstr_1.at (gW : Nat) (v0 : Value) (ws : List ByteArray) (A0 : Option Addr) (c0 : Nat) (l0 : List Int) (w0 w : World) (hB : Below w0.heap.size w0 w) (hbox : w.heap[gW]? = some (.cells #[v0] 62 (0, 0))) (hbg : w0.heap.size ≤ gW) (hR : Kd.R Kd.string 9 w w0.heap.size (fun _ => True) v0 ws)
    (hC : ∀ W_, Kept w W_ (fun k => k = gW ∨ v0.ownBlock = some k) → Kd.C (Kd.int .i64) W_ A0 l0.length l0) (hc : l0.length ≤ c0) (hfit : ∀ x ∈ l0, -9223372036854775808 ≤ x ∧ x ≤ 9223372036854775807) (hlen : ws.length + l0.length ≤ 1000) (htab : Go.Proofs.YtmipaoobkjppdaaDoor.TabFnExactFormatLibrary.Tabs w0) :
    Calls Tryd.prog 74 #[.slice A0 l0.length c0, .pointer (some ⟨gW, 0, none⟩)] w fun e w' => e = .returned (.tuple #[]) ∧ ∃ v', w'.heap[gW]? = some (.cells #[v'] 62 (0, 0)) ∧ Kd.R Kd.string 9 w' w0.heap.size (fun _ => True) v' (ws ++ l0.map impl_formatInstr_1.S) ∧ Below w0.heap.size w0 w' ∧ Kept w w' (fun k => k = gW ∨ v0.ownBlock = some k) := by
  have HC0 := Aside0.mk hC
  have HFIT := Aside0.mk hfit
  have HLEN := Aside0.mk hlen
  have HTAB := Aside0.mk htab
  have HG := Aside0.mk hbg
  have X1 := Aside0.mk hB
  have X2 := Aside0.mk hbox
  have X3 := Aside0.mk hR
  clear hC hfit hlen htab hbg hB hbox hR hc
  go_enter Tryd.func74, Tryd.ntmps74
  go_wp2
  go_loopg [4, 7] l0.length (fun kq _ v7 w' => ∃ (kk : Nat) (v : Value), v7 = .int .i64 (kk : Int) ∧ Aside0 (kk ≤ l0.length ∧ l0.length - kk ≤ kq) ∧ Aside0 (w'.heap[gW]? = some (.cells #[v] 62 (0, 0))) ∧ Aside0 (Kd.R Kd.string 9 w' w0.heap.size (fun _ => True) v (ws ++ (l0.take kk).map impl_formatInstr_1.S)) ∧ Aside0 (Below w0.heap.size w0 w') ∧ Aside0 (Kept w w' (fun k => k = gW ∨ v0.ownBlock = some k)) ∧ Aside0 (v.ownBlock = v0.ownBlock ∨ ∃ b, v.ownBlock = some b ∧ w.heap.size ≤ b))
  case atStart => exact ⟨0, v0, rfl, ⟨by omega, by omega⟩, ⟨X2.out⟩, ⟨by simpa using X3.out⟩, ⟨X1.out⟩, ⟨Kept.refl _ _⟩, ⟨.inl rfl⟩⟩
  case round =>
    clear X1 X2 X3
    obtain ⟨kk, v, rfl, HK, BW, HW, HB, HKp, HAT⟩ := hrel
    by_cases hkl : kk < l0.length
    · have cq1 : (kk : Int) < (l0.length : Int) := by omega
      have c0_ : (0 : Int) ≤ (kk : Int) := by omega
      have c1b : decide ((kk : Int) < (l0.length : Int)) = true := decide_eq_true cq1
      have hkn : 0 < gk := by have := HK.out; omega
      have hci := HC0.out wr HKp.out
      obtain ⟨ad, e0, hx0⟩ := Kd.at_int hci (kk : Int) c0_ cq1
      cases e0
      simp only [Int.toNat_natCast] at hx0
      obtain ⟨n, hn⟩ : ∃ n, n = l0[kk] := ⟨_, rfl⟩
      have hrd : rd l0 (kk : Int) = n := by
        rw [hn]
        unfold rd
        rw [Int.toNat_natCast, List.getD_eq_getElem?_getD, List.getElem?_eq_getElem hkl]
        rfl
      rw [hrd] at hx0
      have hf := HFIT.out n (by rw [hn]; exact List.getElem_mem hkl)
      have AF := Aside0.mk (show impl_FormatInt.f n = some (impl_formatInstr_1.S n) from impl_formatInstr_1.fi n hf.1 hf.2)
      have HLY := Aside0.mk (show (ws ++ (l0.take kk).map impl_formatInstr_1.S).length ≤ 1000 from by have := HLEN.out; rw [List.length_append, List.length_map, List.length_take]; omega)
      have HTK := Aside0.mk (show ws ++ (l0.take (kk + 1)).map impl_formatInstr_1.S = (ws ++ (l0.take kk).map impl_formatInstr_1.S) ++ [impl_formatInstr_1.S n] from by rw [List.take_add_one, List.getElem?_eq_getElem hkl, hn, List.map_append, List.append_assoc]; rfl)
      obtain ⟨y, hy⟩ : ∃ y, y = ws ++ (l0.take kk).map impl_formatInstr_1.S := ⟨_, rfl⟩
      rw [← hy] at HW HLY HTK
      obtain ⟨Av, cv, ev⟩ := Kd.R_slice HW.out
      subst ev
      have hcw : wr.cell? ⟨gW, 0, none⟩ = some (.slice Av y.length cv) := (blk_cell BW.out 0).trans rfl
      have HL := Aside0.mk hkl
      have cq0b := eq_true c0_
      have c1c := eq_true cq1
      clear hkl cq1 c0_ hci hf hn hrd hy
      go_wp2
      have n1_ := Aside0.mk (blk_drew BW.out)
      have n2_ := Aside0.mk (Kd.R_drew HW.out)
      have n3_ := Aside0.mk (below_drew1 HB.out)
      have n4_ := Aside0.mk (Kept.drew HKp.out)
      clear BW HW HB HKp
      have BW := n1_
      have HW := n2_
      have HB := n3_
      have HKp := n4_
      clear n1_ n2_ n3_ n4_
      refine start_ (n := 6) (S := fun w' => w'.cell? ⟨gW, 0, none⟩ = some (.slice Av y.length cv)) (ds := [5]) #[false, false, false, false, false, false] (by kernel_rfl) rfl rfl ((blk_cell BW.out 0).trans rfl) (fun hHeld => ?_)
      generalize wr.drew = wd at BW HW HB HKp hHeld ⊢
      refine take_ (i := 0) (N := some 11) (v := ?_) (a' := ?_) #[true, false, false, false, false, false] rfl rfl (by kernel_rfl) (fun _ _ _ h => h) (Or.inl ⟨by rfl, ?_⟩) hHeld ?_ ?_
      rotate_left
      · intro w' s0
        go_simp
        with_reducible rfl
      rotate_left
      · simp only [Act.put, List.setIfInBounds_toArray, List.set_cons_zero, List.set_cons_succ, i64_w, i32_w]
        rfl
      refine pure_ (i := 1) (N := some 12) (v := ?_) (a' := ?_) #[true, true, false, false, false, false] rfl rfl (by kernel_rfl) (fun _ _ _ h => h) (Or.inl ⟨by rfl, ?_⟩) ?_ ?_
      rotate_left
      · intro w'
        go_simp
        with_reducible rfl
      rotate_left
      · simp only [Act.put, List.setIfInBounds_toArray, List.set_cons_zero, List.set_cons_succ, i64_w, i32_w]
        rfl
      refine one_ (i := 2) (N := some 13) #[true, true, true, false, false, false] rfl rfl (by kernel_rfl) (by decide) (fun K hK => ?_)
      refine goes_ Tryd.func75 (by kernel_rfl) rfl #[.int .i64 n] (by rfl) rfl rfl (by (try simp only [List.map_toArray, List.map_cons, List.map_nil]); first | done | rfl) ?_
      with_reducible refine (impl_FormatInt.calls n (impl_formatInstr_1.S n) _ AF.out ?tabF).mono ?_
      (case tabF => exact (HTAB.out).below (by repeat (first | (with_reducible first | exact HB.out | apply below_alloc | apply pw_below_drewN | apply below_drew1) | exact HB.out)))
      rintro e w1 ⟨rfl, hb⟩
      refine ⟨_, rfl, ?_⟩
      have n1_ := Aside0.mk (blk_below BW.out hb)
      have n2_ := Aside0.mk (Kd.R_below HW.out hb)
      have n3_ := Aside0.mk (below_step (by repeat (first | (with_reducible first | exact HB.out | apply below_alloc | apply pw_below_drewN | apply below_drew1) | exact HB.out)) hb)
      have n4_ := Aside0.mk (Kept.below HKp.out hb)
      clear BW HW HB HKp
      have BW := n1_
      have HW := n2_
      have HB := n3_
      have HKp := n4_
      clear n1_ n2_ n3_ n4_
      clear hb
      refine hK.out _ _ ((blk_cell BW.out 0).trans rfl) (fun hHeld => ?_)
      clear hK K
      refine norm_ (a' := ?_) ?_ ?_
      rotate_left
      · show Act.put _ (some 13) _ = _
        simp only [Act.put, List.setIfInBounds_toArray, List.set_cons_zero, List.set_cons_succ, i64_w, i32_w]
        rfl
      refine one_ (i := 3) (N := some 14) #[true, true, true, true, false, false] rfl rfl (by kernel_rfl) (by decide) (fun K hK => ?_)
      refine Kd.R_lit_step Kd.string _ 9 ?hg14 (N := 14) ?hd14 (xs := [impl_formatInstr_1.S n]) (inner := [.string (impl_formatInstr_1.S n)]) (ok := fun _ => True) (okp := fun _ => True) ?hr14 ?hp14 (fun _ hk => hk) trivial (Below.refl _ _) (Nat.le_refl _) (by simp) ?_
      (case hd14 => rfl)
      (case hg14 => rfl)
      (case hr14 => first | (go_simp; done) | (go_simp; rfl))
      (case hp14 => exact Kd.reps_scalar [impl_formatInstr_1.S n])
      intro v14 w2 ho hb hg_ hnew_
      obtain ⟨A14, c14, e14, hcl14, hC14⟩ := Kd.R_reads ho
      subst e14
      have HC14 := Aside0.mk hC14
      have n1_ := Aside0.mk (blk_below BW.out hb)
      have n2_ := Aside0.mk (Kd.R_below HW.out hb)
      have n3_ := Aside0.mk (below_step (by repeat (first | (with_reducible first | exact HB.out | apply below_alloc | apply pw_below_drewN | apply below_drew1) | exact HB.out)) hb)
      have n4_ := Aside0.mk (Kept.below HKp.out hb)
      clear BW HW HB HKp
      have BW := n1_
      have HW := n2_
      have HB := n3_
      have HKp := n4_
      clear n1_ n2_ n3_ n4_
      clear hb ho hg_ hnew_ hcl14 hC14
      refine hK.out _ _ ((blk_cell BW.out 0).trans rfl) (fun hHeld => ?_)
      clear hK K
      refine norm_ (a' := ?_) ?_ ?_
      rotate_left
      · show Act.put _ (some 14) _ = _
        simp only [Act.put, List.setIfInBounds_toArray, List.set_cons_zero, List.set_cons_succ, i64_w, i32_w]
        rfl
      refine one_ (i := 4) (N := some 15) #[true, true, true, true, true, false] rfl rfl (by kernel_rfl) (by decide) (fun K hK => ?_)
      refine Kd.R_append_rows_step Kd.string (w0 := w0) w0.heap.size (by rfl) (.tmp 11) (.tmp 14) 62 9 (.string ⟨#[]⟩) 16 rfl Tryd.underlying62 info9 rfl (by decide) (by omega) (.slice Av y.length cv) y [impl_formatInstr_1.S n] _ _ _ (fun _ => True) (fun _ => False) rfl rfl HW.out HC14.out (fun _ _ h => h) (fun _ h => h.elim) (fun _ _ => trivial) (by repeat (first | (with_reducible first | exact HB.out | apply below_alloc | apply pw_below_drewN | apply below_drew1) | exact HB.out)) (below_size (by repeat (first | (with_reducible first | exact HB.out | apply below_alloc | apply pw_below_drewN | apply below_drew1) | exact HB.out))) ?aL ?_
      (case aL => (have hl_ := HLY.out; simp only [List.length_singleton]; omega))
      intro v5 w3 ho hb hg hat
      obtain ⟨A5, c5, e5⟩ := Kd.R_slice ho
      subst e5
      have hne_ := Kd.R_ne HW.out BW.out (by decide)
      have n1_ := Aside0.mk ((hg.block gW (blk_lt BW.out) hne_).trans BW.out)
      have n4_ := Aside0.mk (Kept.of_grown hg HKp.out (fun k hk => HAT.out.elim (fun h => .inl (.inr (h.symm.trans hk))) (fun ⟨b, h1, h2⟩ => .inr (by rw [h1] at hk; cases hk; exact h2))))
      have n5_ := Aside0.mk (hat.elim (fun h => HAT.out.elim (fun h' => Or.inl (h.trans h')) (fun ⟨b, h1, h2⟩ => Or.inr ⟨b, h.trans h1, h2⟩)) (fun ⟨b, h1, h2⟩ => Or.inr ⟨b, h1, Nat.le_trans HKp.out.1 h2⟩) : (Value.slice A5 (y ++ [impl_formatInstr_1.S n]).length c5).ownBlock = v0.ownBlock ∨ ∃ b, (Value.slice A5 (y ++ [impl_formatInstr_1.S n]).length c5).ownBlock = some b ∧ w.heap.size ≤ b)
      have n2_ := Aside0.mk ho
      have n3_ := Aside0.mk hb
      clear BW HW HB HKp HAT
      have BW := n1_
      have HW := n2_
      have HB := n3_
      have HKp := n4_
      have HAT := n5_
      clear n1_ n2_ n3_ n4_ n5_ ho hb hg hat hne_
      refine hK.out _ _ ((blk_cell BW.out 0).trans rfl) (fun hHeld => ?_)
      clear hK K
      refine norm_ (a' := ?_) ?_ ?_
      rotate_left
      · show Act.put _ (some 15) _ = _
        simp only [Act.put, List.setIfInBounds_toArray, List.set_cons_zero, List.set_cons_succ, i64_w, i32_w]
        rfl
      refine last_ (i := 5) (N := none) #[true, true, true, true, true, true] rfl rfl (by kernel_rfl) (by decide) (fun K hK => ?_)
      rw [if_pos (by rfl)]
      unfold Oper.wp
      have hcw3 : w3.cell? ⟨gW, 0, none⟩ = some (.slice Av y.length cv) := (blk_cell BW.out 0).trans rfl
      have hfw3 := blk_frozen BW.out 0
      rw [show (execOp _ _).run _ _ = .ok .skip (w3.setCell ⟨gW, 0, none⟩ (.slice A5 (y ++ [impl_formatInstr_1.S n]).length c5)) from by first | (go_simp; done) | (go_simp; rfl)]
      obtain ⟨w4, hw⟩ : ∃ W_, W_ = w3.setCell ⟨gW, 0, none⟩ (.slice A5 (y ++ [impl_formatInstr_1.S n]).length c5) := ⟨_, rfl⟩
      rw [← hw]
      have n2_ := Aside0.mk (show Kd.R Kd.string 9 w4 w0.heap.size (fun _ => True) (.slice A5 (y ++ [impl_formatInstr_1.S n]).length c5) (y ++ [impl_formatInstr_1.S n]) from by rw [hw]; exact Kd.R_set HW.out BW.out (by decide) 0 _)
      have n1_ := Aside0.mk (show w4.heap[gW]? = some (.cells #[.slice A5 (y ++ [impl_formatInstr_1.S n]).length c5] 62 (0, 0)) from by rw [hw]; exact blk_put BW.out 0 _ rfl)
      have n3_ := Aside0.mk (show Below w0.heap.size w0 w4 from by rw [hw]; exact below_set HB.out HG.out)
      have n4_ := Aside0.mk (show Kept w w4 (fun k => k = gW ∨ v0.ownBlock = some k) from by rw [hw]; exact Kept.setCell HKp.out (.inl (.inl rfl)) _)
      clear BW HW HB HKp
      have BW := n1_
      have HW := n2_
      have HB := n3_
      have HKp := n4_
      clear n1_ n2_ n3_ n4_ hw
      refine hK.out _ _ ?_
      clear hK K
      refine done_ (by kernel_rfl) ?_
      go_wp2
      have ew : wrap64 ((kk : Int) + 1) = ((kk + 1 : Nat) : Int) := by have h1 := HL.out; have h2 := HLEN.out; unfold wrap64; omega
      go_roundg (gk - 1)
      case measure => omega
      case rel => exact ⟨kk + 1, _, by rw [ew], ⟨by have := HK.out; have := HL.out; omega⟩, BW, ⟨by rw [HTK.out]; exact HW.out⟩, HB, HKp, HAT⟩
    · have hk : kk = l0.length := by have := HK.out.1; omega
      subst hk
      have c1b : decide ((l0.length : Int) < (l0.length : Int)) = false := decide_eq_false (by omega)
      have hW := HW.out
      rw [List.take_length] at hW
      go_wp2
      first | go_end0 | ((try simp only [Exit.inBlock, Exit.then]); refine bodyPost_ret (results_none rfl _ _ _) rfl ?_)
      exact ⟨rfl, v, BW.out, hW, HB.out, HKp.out⟩
/-! ### strings_Join: function 76 (by hand) -/
def strings_Join.J (y : List ByteArray) : ByteArray := ⟨(Go.Lib.join (y.map (·.data.toList)) [32]).toArray⟩
theorem strings_Join.at (v : Value) (y : List ByteArray) (hy : 0 < y.length) (b : Nat) (ok : Nat → Prop) (w : World) (hR : Kd.R Kd.string 9 w b ok v y) (hN : y.length ≤ 1000) (hlen : (Go.Lib.join (y.map (·.data.toList)) [32]).length ≤ 140737488355328) :
    Calls Tryd.prog 76 #[v, .string ⟨#[32]⟩] w fun e w' => e = .returned (.string (strings_Join.J y)) ∧ Below w.heap.size w w' := by
  obtain ⟨g, cap, rfl, hb, hg, _⟩ := Kd.R_form hR hy
  have hc := (Kd.R_reads' hR).2.1
  have hj : Calls Tryd.prog 76 #[.slice (some ⟨g, 0, none⟩) y.length cap, .string ⟨#[32]⟩] w _ := Go.Proofs.Any.strings_Join Tryd.lay156 Tryd.ext156 g 0 cap y ⟨#[32]⟩ w (fun j x hx => by
    have hj := (List.getElem?_eq_some_iff.1 hx).1
    have h1 := (Kd.R_cell ByteArray.empty hR (j : Int) (by omega) (by omega)).1
    rw [Int.toNat_natCast] at h1
    rw [Nat.zero_add, h1]
    unfold rdOf
    rw [Int.toNat_natCast, List.getD_eq_getElem?_getD, hx]
    rfl) hg (by omega) hc hlen
  exact hj
/-! ### impl_formatInstr: function 49 (by hand) -/
theorem impl_formatInstr.bx {w : World} {g : Nat} {a0_0 a0_1 a0_2 a0_3 a0_4 : Int} {a0_5 : ByteArray} (h : w.heap[g]? = some (.cells #[.int .i64 a0_0, .int .i64 a0_1, .int .i64 a0_2, .int .i64 a0_3, .int .i64 a0_4, .string a0_5] 27 (0, 0))) :
    w.cell? ⟨g, 0, none⟩ = some (Value.int .i64 a0_0) ∧ w.cell? ⟨g, 1, none⟩ = some (Value.int .i64 a0_1) ∧ w.cell? ⟨g, 2, none⟩ = some (Value.int .i64 a0_2) ∧ w.cell? ⟨g, 3, none⟩ = some (Value.int .i64 a0_3) ∧ w.cell? ⟨g, 4, none⟩ = some (Value.int .i64 a0_4) ∧ w.cell? ⟨g, 5, none⟩ = some (Value.string a0_5) ∧
    w.frozen? ⟨g, 0, none⟩ = false ∧ w.frozen? ⟨g, 1, none⟩ = false ∧ w.frozen? ⟨g, 2, none⟩ = false ∧ w.frozen? ⟨g, 3, none⟩ = false ∧ w.frozen? ⟨g, 4, none⟩ = false ∧ w.frozen? ⟨g, 5, none⟩ = false :=
  ⟨(blk_cell h 0).trans rfl, (blk_cell h 1).trans rfl, (blk_cell h 2).trans rfl, (blk_cell h 3).trans rfl, (blk_cell h 4).trans rfl, (blk_cell h 5).trans rfl, blk_frozen h 0, blk_frozen h 1, blk_frozen h 2, blk_frozen h 3, blk_frozen h 4, blk_frozen h 5⟩
theorem impl_formatInstr.lit {l : List Int} {gW : Nat} {v0 vl : Value} {w W : World} {ok : Nat → Prop} (h : Kd.R (Kd.int .i64) 3 w W.heap.size ok vl l) (hlt : gW < W.heap.size) (hv : ∀ k, v0.ownBlock = some k → k < W.heap.size) : ∃ A c, vl = .slice A l.length c ∧ l.length ≤ c ∧ ∀ W_, Kept w W_ (fun k => k = gW ∨ v0.ownBlock = some k) → Kd.C (Kd.int .i64) W_ A l.length l := by
  obtain ⟨A, c, rfl, hc, _⟩ := Kd.R_reads h
  refine ⟨A, c, rfl, hc, fun W_ hk => ?_⟩
  have h2 := Kd.R_kept (Kd.R_of_own (enc := Value.int .i64) (h1 := fun _ => rfl) (Kd.own_of_R h) (ok := fun k => W.heap.size ≤ k) (fun k hk => Kd.R_base h k hk)) hk (fun k ho hs => by
    rcases hs with rfl | hs
    · omega
    · have := hv k hs
      omega)
  exact (Kd.R_reads' h2).2.2
theorem impl_formatInstr.keepS {w W : World} {b : Nat} {v : Value} {ws : List ByteArray} {S : Nat → Prop} (h : Kd.R Kd.string 9 w b (fun _ => True) v ws) (hk : Kept w W S) (hne : ∀ k, v.ownBlock = some k → ¬ S k) : Kd.R Kd.string 9 W b (fun _ => True) v ws :=
  Kd.R_mono (Kd.R_kept (Kd.R_of_own (enc := Value.string) (h1 := fun _ => rfl) (Kd.own_of_R h) (ok := fun k => v.ownBlock = some k) (fun k hk => hk)) hk hne) (fun _ _ => trivial)
def impl_formatInstr.W (o : ByteArray) (a0_0 a0_1 a0_2 a0_3 a0_4 : Int) (a0_5 : ByteArray) : List ByteArray :=
  if a0_0 = 4 ∨ a0_0 = 10 then [o] ++ ([a0_1]).map impl_formatInstr_1.S
  else if a0_0 = 5 then [o] ++ ([a0_1, a0_2, a0_3]).map impl_formatInstr_1.S
  else if a0_0 = 6 then [o] ++ ([a0_1, a0_2]).map impl_formatInstr_1.S ++ [a0_5] ++ (impl_some.L a0_3 a0_4).map impl_formatInstr_1.S
  else if a0_0 = 7 then [o] ++ ([a0_1]).map impl_formatInstr_1.S ++ [a0_5] ++ (impl_some.L a0_3 a0_4).map impl_formatInstr_1.S
  else [o] ++ ([a0_1, a0_2]).map impl_formatInstr_1.S
def impl_formatInstr.f (a0_0 a0_1 a0_2 a0_3 a0_4 : Int) (a0_5 : ByteArray) : Option ByteArray := (impl_OpName.f a0_0).bind fun o => if (∀ x ∈ [a0_1, a0_2, a0_3, a0_4], -9223372036854775808 ≤ x ∧ x ≤ 9223372036854775807) ∧ (Go.Lib.join ((impl_formatInstr.W o a0_0 a0_1 a0_2 a0_3 a0_4 a0_5).map (·.data.toList)) [32]).length ≤ 140737488355328 then some (strings_Join.J (impl_formatInstr.W o a0_0 a0_1 a0_2 a0_3 a0_4 a0_5)) else none
set_option maxHeartbeats 8000000 in
set_option maxRecDepth 100000 in
theorem impl_formatInstr.calls (a0_0 a0_1 a0_2 a0_3 a0_4 : Int) (a0_5 : ByteArray) (r : ByteArray) (w : World) (h : impl_formatInstr.f a0_0 a0_1 a0_2 a0_3 a0_4 a0_5 = some r) (htab : Go.Proofs.YtmipaoobkjppdaaDoor.TabFnExactFormatLibrary.Tabs w) :
    Calls Tryd.prog 49 #[.agg #[.int .i64 a0_0, .int .i64 a0_1, .int .i64 a0_2, .int .i64 a0_3, .int .i64 a0_4, .string a0_5]] w fun e w' => e = .returned (.string r) ∧ Below w.heap.size w w' := by
  have hu27 := Tryd.underlying27
  have HB := Aside0.mk (Below.refl w.heap.size w)
  have HTAB := Aside0.mk htab
  clear htab
  unfold impl_formatInstr.f at h
  obtain ⟨o, AO0, h⟩ := Option.bind_eq_some_iff.mp h
  have AO := Aside0.mk AO0
  clear AO0
  by_cases c : (∀ x ∈ [a0_1, a0_2, a0_3, a0_4], -9223372036854775808 ≤ x ∧ x ≤ 9223372036854775807) ∧ (Go.Lib.join ((impl_formatInstr.W o a0_0 a0_1 a0_2 a0_3 a0_4 a0_5).map (·.data.toList)) [32]).length ≤ 140737488355328
  · rw [if_pos c] at h
    have HR := Aside0.mk (Option.some.inj h).symm
    have HF := Aside0.mk c.1
    have HJW := Aside0.mk c.2
    clear c h
    by_cases c4 : a0_0 = 4
    · have q4 : (a0_0 == 4) = true := by rw [c4]; rfl
      have q10 : (a0_0 == 10) = false := by rw [c4]; rfl
      have q5 : (a0_0 == 5) = false := by rw [c4]; rfl
      have q6 : (a0_0 == 6) = false := by rw [c4]; rfl
      have q7 : (a0_0 == 7) = false := by rw [c4]; rfl
      have HCS := Aside0.mk (show a0_0 = 4 ∧ True from ⟨c4, trivial⟩)
      clear c4
      go_enter Tryd.func49, Tryd.ntmps49
      go_wp2_with (first | ((with_reducible refine gate_dst (N := 1) rfl ?_); refine box_event ?hg1 (N := 1) ?hd1 (cs := #[.int .i64 a0_0, .int .i64 a0_1, .int .i64 a0_2, .int .i64 a0_3, .int .i64 a0_4, .string a0_5]) (t := 27) ?hr1 ?_; (case hd1 => rfl); (case hg1 => rfl); (case hr1 => first | (go_simp; done) | (go_simp; rfl)); intro gx hg w1 hbox hb; have n0_ := Aside0.mk (below_step (HB.out) hb); have n1_ := Aside0.mk (hbox); have n2_ := Aside0.mk ((by rw [hg]; exact below_size (HB.out) : w.heap.size ≤ gx)); clear HB; have HB := n0_; have BX := n1_; have GX := n2_; clear n0_ n1_ n2_; clear hb hbox hg; obtain ⟨h0_, h1_, h2_, h3_, h4_, h5_, f0_, f1_, f2_, f3_, f4_, f5_⟩ := impl_formatInstr.bx BX.out) | (go_at_call 10; (with_reducible refine (impl_OpName.calls a0_0 o _ AO.out ?tab10).mono ?_); (case tab10 => exact (HTAB.out).below (HB.out)); rintro e w2 ⟨rfl, hb⟩; have n0_ := Aside0.mk (blk_below BX.out hb); have n1_ := Aside0.mk (below_step (HB.out) hb); clear BX HB; have BX := n0_; have HB := n1_; clear n0_ n1_; clear hb; obtain ⟨h0_, h1_, h2_, h3_, h4_, h5_, f0_, f1_, f2_, f3_, f4_, f5_⟩ := impl_formatInstr.bx BX.out) | ((with_reducible refine gate_dst (N := 8) rfl ?_); refine Kd.R_lit Kd.string (w0 := w) w.heap.size 9 ?hg8 (N := 8) ?hd8 (xs := [o]) (inner := [.string o]) (ok := fun _ => True) (okp := fun _ => True) ?hr8 ?hp8 (fun _ hk => hk) trivial (HB.out) (below_size (HB.out)) (by simp) ?_; (case hd8 => rfl); (case hg8 => rfl); (case hr8 => first | (go_simp; done) | (go_simp; rfl)); (case hp8 => exact Kd.reps_scalar [o]); intro v8 w3 ho hb hg_ hnew_; obtain ⟨y8, hy8⟩ : ∃ y_, y_ = [o] := ⟨_, rfl⟩; rw [← hy8] at ho; have HY8 := Aside0.mk hy8; have HN8 := Aside0.mk (show y8.length ≤ 1 from by rw [hy8]; simp); obtain ⟨A8, c8, e8⟩ := Kd.R_slice ho; subst e8; have n0_ := Aside0.mk ((hg_.block gx (blk_lt BX.out) (by simp)).trans BX.out); have n1_ := Aside0.mk (hb); have n2_ := Aside0.mk (ho); clear BX HB; have BX := n0_; have HB := n1_; have HW := n2_; clear n0_ n1_ n2_; clear hb ho hg_ hnew_ hy8; obtain ⟨h0_, h1_, h2_, h3_, h4_, h5_, f0_, f1_, f2_, f3_, f4_, f5_⟩ := impl_formatInstr.bx BX.out) | ((with_reducible refine gate_dst (N := 3) rfl ?_); refine box_event ?hg3 (N := 3) ?hd3 (cs := #[.slice none 0 0]) (t := 62) ?hr3 ?_; (case hd3 => rfl); (case hg3 => rfl); (case hr3 => first | (go_simp; done) | (go_simp; rfl)); intro gW hg w4 hbox hb; have NE := Aside0.mk (show gx ≠ gW from by rw [hg]; exact Nat.ne_of_lt (blk_lt BX.out)); have GW := Aside0.mk (show w.heap.size ≤ gW from by rw [hg]; exact below_size (HB.out)); have n0_ := Aside0.mk (blk_below BX.out hb); have n1_ := Aside0.mk (Kd.R_below HW.out hb); have n2_ := Aside0.mk (below_step (HB.out) hb); have n3_ := Aside0.mk (hbox); clear BX HW HB; have BX := n0_; have HW := n1_; have HB := n2_; have BW := n3_; clear n0_ n1_ n2_ n3_; clear hb hbox hg; have hw_w4 : w4.cell? ⟨gW, 0, none⟩ = some (Value.slice none 0 0) := (blk_cell BW.out 0).trans rfl; have hwf_w4 := blk_frozen BW.out 0; obtain ⟨h0_, h1_, h2_, h3_, h4_, h5_, f0_, f1_, f2_, f3_, f4_, f5_⟩ := impl_formatInstr.bx BX.out) | ((with_reducible refine gate_store (t := 62) (p := 3) rfl ?_); refine store_event (t := 62) (p := 3) (v := ?vo3) (w1 := (w4.setCell ⟨gW, 0, none⟩ (.slice A8 y8.length c8))) ?hgs3 ?hos3 ?hns3 ?hrs3 ?_; (case hos3 => rfl); (case hgs3 => rfl); (case hns3 => rfl); (case hrs3 => first | (go_simp; done) | (go_simp; rfl)); intro ws3 hw; have n0_ := Aside0.mk (show Kd.R Kd.string 9 ws3 w.heap.size (fun _ => True) (.slice A8 y8.length c8) y8 from by rw [hw]; exact Kd.R_set HW.out BW.out (by decide) 0 _); have n1_ := Aside0.mk (show ws3.heap[gx]? = some (.cells #[.int .i64 a0_0, .int .i64 a0_1, .int .i64 a0_2, .int .i64 a0_3, .int .i64 a0_4, .string a0_5] 27 (0, 0)) from by rw [hw]; exact (Below.heap_setCell w4 ⟨gW, 0, none⟩ _ gx NE.out).trans BX.out); have n2_ := Aside0.mk (show ws3.heap[gW]? = some (.cells #[.slice A8 y8.length c8] 62 (0, 0)) from by rw [hw]; exact blk_put BW.out 0 _ rfl); have n3_ := Aside0.mk (show Below w.heap.size w ws3 from by rw [hw]; exact below_set HB.out GW.out); clear HW BX BW HB; have HW := n0_; have BX := n1_; have BW := n2_; have HB := n3_; clear n0_ n1_ n2_ n3_; clear hw; obtain ⟨h0_, h1_, h2_, h3_, h4_, h5_, f0_, f1_, f2_, f3_, f4_, f5_⟩ := impl_formatInstr.bx BX.out; have hw_ws3 : ws3.cell? ⟨gW, 0, none⟩ = some (Value.slice A8 y8.length c8) := (blk_cell BW.out 0).trans rfl; have hwf_ws3 := blk_frozen BW.out 0) | ((with_reducible refine gate_dst (N := 25) rfl ?_); refine Kd.R_lit (Kd.int .i64) _ 3 ?hg25 (N := 25) ?hd25 (xs := [a0_1]) (inner := [.int .i64 a0_1]) (ok := fun _ => True) (okp := fun _ => True) ?hr25 ?hp25 (fun _ hk => hk) trivial (Below.refl _ _) (Nat.le_refl _) (by simp) ?_; (case hd25 => rfl); (case hg25 => rfl); (case hr25 => first | (go_simp; done) | (go_simp; rfl)); (case hp25 => exact Kd.reps_scalar [a0_1]); intro v25 wl25 ho hb hg_ hnew_; obtain ⟨A25, c25, e25, hcl, hC⟩ := impl_formatInstr.lit ho (blk_lt BW.out) (Kd.R_lt HW.out); subst e25; have HC25 := Aside0.mk hC; have HCL25 := Aside0.mk hcl; clear hC hcl; have n0_ := Aside0.mk (blk_below BX.out hb); have n1_ := Aside0.mk (blk_below BW.out hb); have n2_ := Aside0.mk (Kd.R_below HW.out hb); have n3_ := Aside0.mk (below_step (HB.out) hb); clear BX BW HW HB; have BX := n0_; have BW := n1_; have HW := n2_; have HB := n3_; clear n0_ n1_ n2_ n3_; clear hb ho hg_ hnew_; obtain ⟨h0_, h1_, h2_, h3_, h4_, h5_, f0_, f1_, f2_, f3_, f4_, f5_⟩ := impl_formatInstr.bx BX.out; have hw_wl25 : wl25.cell? ⟨gW, 0, none⟩ = some (Value.slice A8 y8.length c8) := (blk_cell BW.out 0).trans rfl; have hwf_wl25 := blk_frozen BW.out 0) | (go_at_call 74; refine (impl_formatInstr_1.at gW (.slice A8 y8.length c8) y8 A25 c25 [a0_1] w _ (HB.out) BW.out GW.out HW.out HC25.out HCL25.out ?fit900 ?len900 HTAB.out).mono ?_; (case fit900 => intro x hx; simp only [List.mem_cons, List.not_mem_nil, or_false] at hx; obtain rfl := hx; exact HF.out _ (by simp)); (case len900 => (have := HN8.out; simp only [List.length_cons, List.length_nil]; omega)); rintro e wf900 ⟨rfl, v900, hbx, hr, hb, hk⟩; obtain ⟨y900, hy⟩ : ∃ y_, y_ = y8 ++ ([a0_1]).map impl_formatInstr_1.S := ⟨_, rfl⟩; rw [← hy] at hr; have HY900 := Aside0.mk hy; have HN900 := Aside0.mk (show y900.length ≤ 5 from by have := HN8.out; rw [hy, List.length_append, List.length_map]; simp only [List.length_cons, List.length_nil]; omega); obtain ⟨A900, c900, e900⟩ := Kd.R_slice hr; subst e900; have hne_ := Kd.R_ne HW.out BX.out (by decide); have n0_ := Aside0.mk (blk_kept BX.out hk (fun he => he.elim NE.out (fun h => hne_ h.symm))); have n1_ := Aside0.mk (hbx); have n2_ := Aside0.mk (hr); have n3_ := Aside0.mk (hb); clear BX BW HW HB; have BX := n0_; have BW := n1_; have HW := n2_; have HB := n3_; clear n0_ n1_ n2_ n3_; clear hbx hr hb hk hne_ hy; obtain ⟨h0_, h1_, h2_, h3_, h4_, h5_, f0_, f1_, f2_, f3_, f4_, f5_⟩ := impl_formatInstr.bx BX.out; have hw_wf900 : wf900.cell? ⟨gW, 0, none⟩ = some (Value.slice A900 y900.length c900) := (blk_cell BW.out 0).trans rfl; have hwf_wf900 := blk_frozen BW.out 0) | (go_at_call 76; have hyW : y900 = impl_formatInstr.W o a0_0 a0_1 a0_2 a0_3 a0_4 a0_5 := (by have HCT := HCS.out; unfold impl_formatInstr.W; rw [if_pos (by omega)]; rw [HY900.out, HY8.out]); have HP := Aside0.mk (show 0 < y900.length from by rw [HY900.out, HY8.out]; simp only [List.length_append, List.length_cons, List.length_nil]; omega); have HJ := Aside0.mk (show (Go.Lib.join (y900.map (·.data.toList)) [32]).length ≤ 140737488355328 from by rw [hyW]; exact HJW.out); have HYW := Aside0.mk hyW; clear hyW; refine (strings_Join.at _ y900 (HP.out) w.heap.size _ _ HW.out ?jn ?jl).mono ?_; (case jn => (have := HN900.out; omega)); (case jl => exact HJ.out); rintro e wj ⟨rfl, hb⟩; have n0_ := Aside0.mk (below_step (HB.out) hb); clear HB; have HB := n0_; clear n0_ hb))
      go_ret
      exact ⟨(show Ending.returned (.string (strings_Join.J y900)) = .returned (.string r) from by rw [HR.out, HYW.out]), HB.out⟩
    · skip
      by_cases c10 : a0_0 = 10
      · have q4 : (a0_0 == 4) = false := by rw [c10]; rfl
        have q10 : (a0_0 == 10) = true := by rw [c10]; rfl
        have q5 : (a0_0 == 5) = false := by rw [c10]; rfl
        have q6 : (a0_0 == 6) = false := by rw [c10]; rfl
        have q7 : (a0_0 == 7) = false := by rw [c10]; rfl
        have HCS := Aside0.mk (show a0_0 ≠ 4 ∧ a0_0 = 10 ∧ True from ⟨c4, c10, trivial⟩)
        clear c4 c10
        go_enter Tryd.func49, Tryd.ntmps49
        go_wp2_with (first | ((with_reducible refine gate_dst (N := 1) rfl ?_); refine box_event ?hg1 (N := 1) ?hd1 (cs := #[.int .i64 a0_0, .int .i64 a0_1, .int .i64 a0_2, .int .i64 a0_3, .int .i64 a0_4, .string a0_5]) (t := 27) ?hr1 ?_; (case hd1 => rfl); (case hg1 => rfl); (case hr1 => first | (go_simp; done) | (go_simp; rfl)); intro gx hg w1 hbox hb; have n0_ := Aside0.mk (below_step (HB.out) hb); have n1_ := Aside0.mk (hbox); have n2_ := Aside0.mk ((by rw [hg]; exact below_size (HB.out) : w.heap.size ≤ gx)); clear HB; have HB := n0_; have BX := n1_; have GX := n2_; clear n0_ n1_ n2_; clear hb hbox hg; obtain ⟨h0_, h1_, h2_, h3_, h4_, h5_, f0_, f1_, f2_, f3_, f4_, f5_⟩ := impl_formatInstr.bx BX.out) | (go_at_call 10; (with_reducible refine (impl_OpName.calls a0_0 o _ AO.out ?tab10).mono ?_); (case tab10 => exact (HTAB.out).below (HB.out)); rintro e w2 ⟨rfl, hb⟩; have n0_ := Aside0.mk (blk_below BX.out hb); have n1_ := Aside0.mk (below_step (HB.out) hb); clear BX HB; have BX := n0_; have HB := n1_; clear n0_ n1_; clear hb; obtain ⟨h0_, h1_, h2_, h3_, h4_, h5_, f0_, f1_, f2_, f3_, f4_, f5_⟩ := impl_formatInstr.bx BX.out) | ((with_reducible refine gate_dst (N := 8) rfl ?_); refine Kd.R_lit Kd.string (w0 := w) w.heap.size 9 ?hg8 (N := 8) ?hd8 (xs := [o]) (inner := [.string o]) (ok := fun _ => True) (okp := fun _ => True) ?hr8 ?hp8 (fun _ hk => hk) trivial (HB.out) (below_size (HB.out)) (by simp) ?_; (case hd8 => rfl); (case hg8 => rfl); (case hr8 => first | (go_simp; done) | (go_simp; rfl)); (case hp8 => exact Kd.reps_scalar [o]); intro v8 w3 ho hb hg_ hnew_; obtain ⟨y8, hy8⟩ : ∃ y_, y_ = [o] := ⟨_, rfl⟩; rw [← hy8] at ho; have HY8 := Aside0.mk hy8; have HN8 := Aside0.mk (show y8.length ≤ 1 from by rw [hy8]; simp); obtain ⟨A8, c8, e8⟩ := Kd.R_slice ho; subst e8; have n0_ := Aside0.mk ((hg_.block gx (blk_lt BX.out) (by simp)).trans BX.out); have n1_ := Aside0.mk (hb); have n2_ := Aside0.mk (ho); clear BX HB; have BX := n0_; have HB := n1_; have HW := n2_; clear n0_ n1_ n2_; clear hb ho hg_ hnew_ hy8; obtain ⟨h0_, h1_, h2_, h3_, h4_, h5_, f0_, f1_, f2_, f3_, f4_, f5_⟩ := impl_formatInstr.bx BX.out) | ((with_reducible refine gate_dst (N := 3) rfl ?_); refine box_event ?hg3 (N := 3) ?hd3 (cs := #[.slice none 0 0]) (t := 62) ?hr3 ?_; (case hd3 => rfl); (case hg3 => rfl); (case hr3 => first | (go_simp; done) | (go_simp; rfl)); intro gW hg w4 hbox hb; have NE := Aside0.mk (show gx ≠ gW from by rw [hg]; exact Nat.ne_of_lt (blk_lt BX.out)); have GW := Aside0.mk (show w.heap.size ≤ gW from by rw [hg]; exact below_size (HB.out)); have n0_ := Aside0.mk (blk_below BX.out hb); have n1_ := Aside0.mk (Kd.R_below HW.out hb); have n2_ := Aside0.mk (below_step (HB.out) hb); have n3_ := Aside0.mk (hbox); clear BX HW HB; have BX := n0_; have HW := n1_; have HB := n2_; have BW := n3_; clear n0_ n1_ n2_ n3_; clear hb hbox hg; have hw_w4 : w4.cell? ⟨gW, 0, none⟩ = some (Value.slice none 0 0) := (blk_cell BW.out 0).trans rfl; have hwf_w4 := blk_frozen BW.out 0; obtain ⟨h0_, h1_, h2_, h3_, h4_, h5_, f0_, f1_, f2_, f3_, f4_, f5_⟩ := impl_formatInstr.bx BX.out) | ((with_reducible refine gate_store (t := 62) (p := 3) rfl ?_); refine store_event (t := 62) (p := 3) (v := ?vo3) (w1 := (w4.setCell ⟨gW, 0, none⟩ (.slice A8 y8.length c8))) ?hgs3 ?hos3 ?hns3 ?hrs3 ?_; (case hos3 => rfl); (case hgs3 => rfl); (case hns3 => rfl); (case hrs3 => first | (go_simp; done) | (go_simp; rfl)); intro ws3 hw; have n0_ := Aside0.mk (show Kd.R Kd.string 9 ws3 w.heap.size (fun _ => True) (.slice A8 y8.length c8) y8 from by rw [hw]; exact Kd.R_set HW.out BW.out (by decide) 0 _); have n1_ := Aside0.mk (show ws3.heap[gx]? = some (.cells #[.int .i64 a0_0, .int .i64 a0_1, .int .i64 a0_2, .int .i64 a0_3, .int .i64 a0_4, .string a0_5] 27 (0, 0)) from by rw [hw]; exact (Below.heap_setCell w4 ⟨gW, 0, none⟩ _ gx NE.out).trans BX.out); have n2_ := Aside0.mk (show ws3.heap[gW]? = some (.cells #[.slice A8 y8.length c8] 62 (0, 0)) from by rw [hw]; exact blk_put BW.out 0 _ rfl); have n3_ := Aside0.mk (show Below w.heap.size w ws3 from by rw [hw]; exact below_set HB.out GW.out); clear HW BX BW HB; have HW := n0_; have BX := n1_; have BW := n2_; have HB := n3_; clear n0_ n1_ n2_ n3_; clear hw; obtain ⟨h0_, h1_, h2_, h3_, h4_, h5_, f0_, f1_, f2_, f3_, f4_, f5_⟩ := impl_formatInstr.bx BX.out; have hw_ws3 : ws3.cell? ⟨gW, 0, none⟩ = some (Value.slice A8 y8.length c8) := (blk_cell BW.out 0).trans rfl; have hwf_ws3 := blk_frozen BW.out 0) | ((with_reducible refine gate_dst (N := 25) rfl ?_); refine Kd.R_lit (Kd.int .i64) _ 3 ?hg25 (N := 25) ?hd25 (xs := [a0_1]) (inner := [.int .i64 a0_1]) (ok := fun _ => True) (okp := fun _ => True) ?hr25 ?hp25 (fun _ hk => hk) trivial (Below.refl _ _) (Nat.le_refl _) (by simp) ?_; (case hd25 => rfl); (case hg25 => rfl); (case hr25 => first | (go_simp; done) | (go_simp; rfl)); (case hp25 => exact Kd.reps_scalar [a0_1]); intro v25 wl25 ho hb hg_ hnew_; obtain ⟨A25, c25, e25, hcl, hC⟩ := impl_formatInstr.lit ho (blk_lt BW.out) (Kd.R_lt HW.out); subst e25; have HC25 := Aside0.mk hC; have HCL25 := Aside0.mk hcl; clear hC hcl; have n0_ := Aside0.mk (blk_below BX.out hb); have n1_ := Aside0.mk (blk_below BW.out hb); have n2_ := Aside0.mk (Kd.R_below HW.out hb); have n3_ := Aside0.mk (below_step (HB.out) hb); clear BX BW HW HB; have BX := n0_; have BW := n1_; have HW := n2_; have HB := n3_; clear n0_ n1_ n2_ n3_; clear hb ho hg_ hnew_; obtain ⟨h0_, h1_, h2_, h3_, h4_, h5_, f0_, f1_, f2_, f3_, f4_, f5_⟩ := impl_formatInstr.bx BX.out; have hw_wl25 : wl25.cell? ⟨gW, 0, none⟩ = some (Value.slice A8 y8.length c8) := (blk_cell BW.out 0).trans rfl; have hwf_wl25 := blk_frozen BW.out 0) | (go_at_call 74; refine (impl_formatInstr_1.at gW (.slice A8 y8.length c8) y8 A25 c25 [a0_1] w _ (HB.out) BW.out GW.out HW.out HC25.out HCL25.out ?fit900 ?len900 HTAB.out).mono ?_; (case fit900 => intro x hx; simp only [List.mem_cons, List.not_mem_nil, or_false] at hx; obtain rfl := hx; exact HF.out _ (by simp)); (case len900 => (have := HN8.out; simp only [List.length_cons, List.length_nil]; omega)); rintro e wf900 ⟨rfl, v900, hbx, hr, hb, hk⟩; obtain ⟨y900, hy⟩ : ∃ y_, y_ = y8 ++ ([a0_1]).map impl_formatInstr_1.S := ⟨_, rfl⟩; rw [← hy] at hr; have HY900 := Aside0.mk hy; have HN900 := Aside0.mk (show y900.length ≤ 5 from by have := HN8.out; rw [hy, List.length_append, List.length_map]; simp only [List.length_cons, List.length_nil]; omega); obtain ⟨A900, c900, e900⟩ := Kd.R_slice hr; subst e900; have hne_ := Kd.R_ne HW.out BX.out (by decide); have n0_ := Aside0.mk (blk_kept BX.out hk (fun he => he.elim NE.out (fun h => hne_ h.symm))); have n1_ := Aside0.mk (hbx); have n2_ := Aside0.mk (hr); have n3_ := Aside0.mk (hb); clear BX BW HW HB; have BX := n0_; have BW := n1_; have HW := n2_; have HB := n3_; clear n0_ n1_ n2_ n3_; clear hbx hr hb hk hne_ hy; obtain ⟨h0_, h1_, h2_, h3_, h4_, h5_, f0_, f1_, f2_, f3_, f4_, f5_⟩ := impl_formatInstr.bx BX.out; have hw_wf900 : wf900.cell? ⟨gW, 0, none⟩ = some (Value.slice A900 y900.length c900) := (blk_cell BW.out 0).trans rfl; have hwf_wf900 := blk_frozen BW.out 0) | (go_at_call 76; have hyW : y900 = impl_formatInstr.W o a0_0 a0_1 a0_2 a0_3 a0_4 a0_5 := (by have HCT := HCS.out; unfold impl_formatInstr.W; rw [if_pos (by omega)]; rw [HY900.out, HY8.out]); have HP := Aside0.mk (show 0 < y900.length from by rw [HY900.out, HY8.out]; simp only [List.length_append, List.length_cons, List.length_nil]; omega); have HJ := Aside0.mk (show (Go.Lib.join (y900.map (·.data.toList)) [32]).length ≤ 140737488355328 from by rw [hyW]; exact HJW.out); have HYW := Aside0.mk hyW; clear hyW; refine (strings_Join.at _ y900 (HP.out) w.heap.size _ _ HW.out ?jn ?jl).mono ?_; (case jn => (have := HN900.out; omega)); (case jl => exact HJ.out); rintro e wj ⟨rfl, hb⟩; have n0_ := Aside0.mk (below_step (HB.out) hb); clear HB; have HB := n0_; clear n0_ hb))
        go_ret
        exact ⟨(show Ending.returned (.string (strings_Join.J y900)) = .returned (.string r) from by rw [HR.out, HYW.out]), HB.out⟩
      · skip
        by_cases c5 : a0_0 = 5
        · have q4 : (a0_0 == 4) = false := by rw [c5]; rfl
          have q10 : (a0_0 == 10) = false := by rw [c5]; rfl
          have q5 : (a0_0 == 5) = true := by rw [c5]; rfl
          have q6 : (a0_0 == 6) = false := by rw [c5]; rfl
          have q7 : (a0_0 == 7) = false := by rw [c5]; rfl
          have HCS := Aside0.mk (show a0_0 ≠ 4 ∧ a0_0 ≠ 10 ∧ a0_0 = 5 ∧ True from ⟨c4, c10, c5, trivial⟩)
          clear c4 c10 c5
          go_enter Tryd.func49, Tryd.ntmps49
          go_wp2_with (first | ((with_reducible refine gate_dst (N := 1) rfl ?_); refine box_event ?hg1 (N := 1) ?hd1 (cs := #[.int .i64 a0_0, .int .i64 a0_1, .int .i64 a0_2, .int .i64 a0_3, .int .i64 a0_4, .string a0_5]) (t := 27) ?hr1 ?_; (case hd1 => rfl); (case hg1 => rfl); (case hr1 => first | (go_simp; done) | (go_simp; rfl)); intro gx hg w1 hbox hb; have n0_ := Aside0.mk (below_step (HB.out) hb); have n1_ := Aside0.mk (hbox); have n2_ := Aside0.mk ((by rw [hg]; exact below_size (HB.out) : w.heap.size ≤ gx)); clear HB; have HB := n0_; have BX := n1_; have GX := n2_; clear n0_ n1_ n2_; clear hb hbox hg; obtain ⟨h0_, h1_, h2_, h3_, h4_, h5_, f0_, f1_, f2_, f3_, f4_, f5_⟩ := impl_formatInstr.bx BX.out) | (go_at_call 10; (with_reducible refine (impl_OpName.calls a0_0 o _ AO.out ?tab10).mono ?_); (case tab10 => exact (HTAB.out).below (HB.out)); rintro e w2 ⟨rfl, hb⟩; have n0_ := Aside0.mk (blk_below BX.out hb); have n1_ := Aside0.mk (below_step (HB.out) hb); clear BX HB; have BX := n0_; have HB := n1_; clear n0_ n1_; clear hb; obtain ⟨h0_, h1_, h2_, h3_, h4_, h5_, f0_, f1_, f2_, f3_, f4_, f5_⟩ := impl_formatInstr.bx BX.out) | ((with_reducible refine gate_dst (N := 8) rfl ?_); refine Kd.R_lit Kd.string (w0 := w) w.heap.size 9 ?hg8 (N := 8) ?hd8 (xs := [o]) (inner := [.string o]) (ok := fun _ => True) (okp := fun _ => True) ?hr8 ?hp8 (fun _ hk => hk) trivial (HB.out) (below_size (HB.out)) (by simp) ?_; (case hd8 => rfl); (case hg8 => rfl); (case hr8 => first | (go_simp; done) | (go_simp; rfl)); (case hp8 => exact Kd.reps_scalar [o]); intro v8 w3 ho hb hg_ hnew_; obtain ⟨y8, hy8⟩ : ∃ y_, y_ = [o] := ⟨_, rfl⟩; rw [← hy8] at ho; have HY8 := Aside0.mk hy8; have HN8 := Aside0.mk (show y8.length ≤ 1 from by rw [hy8]; simp); obtain ⟨A8, c8, e8⟩ := Kd.R_slice ho; subst e8; have n0_ := Aside0.mk ((hg_.block gx (blk_lt BX.out) (by simp)).trans BX.out); have n1_ := Aside0.mk (hb); have n2_ := Aside0.mk (ho); clear BX HB; have BX := n0_; have HB := n1_; have HW := n2_; clear n0_ n1_ n2_; clear hb ho hg_ hnew_ hy8; obtain ⟨h0_, h1_, h2_, h3_, h4_, h5_, f0_, f1_, f2_, f3_, f4_, f5_⟩ := impl_formatInstr.bx BX.out) | ((with_reducible refine gate_dst (N := 3) rfl ?_); refine box_event ?hg3 (N := 3) ?hd3 (cs := #[.slice none 0 0]) (t := 62) ?hr3 ?_; (case hd3 => rfl); (case hg3 => rfl); (case hr3 => first | (go_simp; done) | (go_simp; rfl)); intro gW hg w4 hbox hb; have NE := Aside0.mk (show gx ≠ gW from by rw [hg]; exact Nat.ne_of_lt (blk_lt BX.out)); have GW := Aside0.mk (show w.heap.size ≤ gW from by rw [hg]; exact below_size (HB.out)); have n0_ := Aside0.mk (blk_below BX.out hb); have n1_ := Aside0.mk (Kd.R_below HW.out hb); have n2_ := Aside0.mk (below_step (HB.out) hb); have n3_ := Aside0.mk (hbox); clear BX HW HB; have BX := n0_; have HW := n1_; have HB := n2_; have BW := n3_; clear n0_ n1_ n2_ n3_; clear hb hbox hg; have hw_w4 : w4.cell? ⟨gW, 0, none⟩ = some (Value.slice none 0 0) := (blk_cell BW.out 0).trans rfl; have hwf_w4 := blk_frozen BW.out 0; obtain ⟨h0_, h1_, h2_, h3_, h4_, h5_, f0_, f1_, f2_, f3_, f4_, f5_⟩ := impl_formatInstr.bx BX.out) | ((with_reducible refine gate_store (t := 62) (p := 3) rfl ?_); refine store_event (t := 62) (p := 3) (v := ?vo3) (w1 := (w4.setCell ⟨gW, 0, none⟩ (.slice A8 y8.length c8))) ?hgs3 ?hos3 ?hns3 ?hrs3 ?_; (case hos3 => rfl); (case hgs3 => rfl); (case hns3 => rfl); (case hrs3 => first | (go_simp; done) | (go_simp; rfl)); intro ws3 hw; have n0_ := Aside0.mk (show Kd.R Kd.string 9 ws3 w.heap.size (fun _ => True) (.slice A8 y8.length c8) y8 from by rw [hw]; exact Kd.R_set HW.out BW.out (by decide) 0 _); have n1_ := Aside0.mk (show ws3.heap[gx]? = some (.cells #[.int .i64 a0_0, .int .i64 a0_1, .int .i64 a0_2, .int .i64 a0_3, .int .i64 a0_4, .string a0_5] 27 (0, 0)) from by rw [hw]; exact (Below.heap_setCell w4 ⟨gW, 0, none⟩ _ gx NE.out).trans BX.out); have n2_ := Aside0.mk (show ws3.heap[gW]? = some (.cells #[.slice A8 y8.length c8] 62 (0, 0)) from by rw [hw]; exact blk_put BW.out 0 _ rfl); have n3_ := Aside0.mk (show Below w.heap.size w ws3 from by rw [hw]; exact below_set HB.out GW.out); clear HW BX BW HB; have HW := n0_; have BX := n1_; have BW := n2_; have HB := n3_; clear n0_ n1_ n2_ n3_; clear hw; obtain ⟨h0_, h1_, h2_, h3_, h4_, h5_, f0_, f1_, f2_, f3_, f4_, f5_⟩ := impl_formatInstr.bx BX.out; have hw_ws3 : ws3.cell? ⟨gW, 0, none⟩ = some (Value.slice A8 y8.length c8) := (blk_cell BW.out 0).trans rfl; have hwf_ws3 := blk_frozen BW.out 0) | ((with_reducible refine gate_dst (N := 36) rfl ?_); refine Kd.R_lit (Kd.int .i64) _ 3 ?hg36 (N := 36) ?hd36 (xs := [a0_1, a0_2, a0_3]) (inner := [.int .i64 a0_1, .int .i64 a0_2, .int .i64 a0_3]) (ok := fun _ => True) (okp := fun _ => True) ?hr36 ?hp36 (fun _ hk => hk) trivial (Below.refl _ _) (Nat.le_refl _) (by simp) ?_; (case hd36 => rfl); (case hg36 => rfl); (case hr36 => first | (go_simp; done) | (go_simp; rfl)); (case hp36 => exact Kd.reps_scalar [a0_1, a0_2, a0_3]); intro v36 wl36 ho hb hg_ hnew_; obtain ⟨A36, c36, e36, hcl, hC⟩ := impl_formatInstr.lit ho (blk_lt BW.out) (Kd.R_lt HW.out); subst e36; have HC36 := Aside0.mk hC; have HCL36 := Aside0.mk hcl; clear hC hcl; have n0_ := Aside0.mk (blk_below BX.out hb); have n1_ := Aside0.mk (blk_below BW.out hb); have n2_ := Aside0.mk (Kd.R_below HW.out hb); have n3_ := Aside0.mk (below_step (HB.out) hb); clear BX BW HW HB; have BX := n0_; have BW := n1_; have HW := n2_; have HB := n3_; clear n0_ n1_ n2_ n3_; clear hb ho hg_ hnew_; obtain ⟨h0_, h1_, h2_, h3_, h4_, h5_, f0_, f1_, f2_, f3_, f4_, f5_⟩ := impl_formatInstr.bx BX.out; have hw_wl36 : wl36.cell? ⟨gW, 0, none⟩ = some (Value.slice A8 y8.length c8) := (blk_cell BW.out 0).trans rfl; have hwf_wl36 := blk_frozen BW.out 0) | (go_at_call 74; refine (impl_formatInstr_1.at gW (.slice A8 y8.length c8) y8 A36 c36 [a0_1, a0_2, a0_3] w _ (HB.out) BW.out GW.out HW.out HC36.out HCL36.out ?fit900 ?len900 HTAB.out).mono ?_; (case fit900 => intro x hx; simp only [List.mem_cons, List.not_mem_nil, or_false] at hx; rcases hx with rfl | rfl | rfl <;> exact HF.out _ (by simp)); (case len900 => (have := HN8.out; simp only [List.length_cons, List.length_nil]; omega)); rintro e wf900 ⟨rfl, v900, hbx, hr, hb, hk⟩; obtain ⟨y900, hy⟩ : ∃ y_, y_ = y8 ++ ([a0_1, a0_2, a0_3]).map impl_formatInstr_1.S := ⟨_, rfl⟩; rw [← hy] at hr; have HY900 := Aside0.mk hy; have HN900 := Aside0.mk (show y900.length ≤ 5 from by have := HN8.out; rw [hy, List.length_append, List.length_map]; simp only [List.length_cons, List.length_nil]; omega); obtain ⟨A900, c900, e900⟩ := Kd.R_slice hr; subst e900; have hne_ := Kd.R_ne HW.out BX.out (by decide); have n0_ := Aside0.mk (blk_kept BX.out hk (fun he => he.elim NE.out (fun h => hne_ h.symm))); have n1_ := Aside0.mk (hbx); have n2_ := Aside0.mk (hr); have n3_ := Aside0.mk (hb); clear BX BW HW HB; have BX := n0_; have BW := n1_; have HW := n2_; have HB := n3_; clear n0_ n1_ n2_ n3_; clear hbx hr hb hk hne_ hy; obtain ⟨h0_, h1_, h2_, h3_, h4_, h5_, f0_, f1_, f2_, f3_, f4_, f5_⟩ := impl_formatInstr.bx BX.out; have hw_wf900 : wf900.cell? ⟨gW, 0, none⟩ = some (Value.slice A900 y900.length c900) := (blk_cell BW.out 0).trans rfl; have hwf_wf900 := blk_frozen BW.out 0) | (go_at_call 76; have hyW : y900 = impl_formatInstr.W o a0_0 a0_1 a0_2 a0_3 a0_4 a0_5 := (by have HCT := HCS.out; unfold impl_formatInstr.W; rw [if_neg (by omega), if_pos (by omega)]; rw [HY900.out, HY8.out]); have HP := Aside0.mk (show 0 < y900.length from by rw [HY900.out, HY8.out]; simp only [List.length_append, List.length_cons, List.length_nil]; omega); have HJ := Aside0.mk (show (Go.Lib.join (y900.map (·.data.toList)) [32]).length ≤ 140737488355328 from by rw [hyW]; exact HJW.out); have HYW := Aside0.mk hyW; clear hyW; refine (strings_Join.at _ y900 (HP.out) w.heap.size _ _ HW.out ?jn ?jl).mono ?_; (case jn => (have := HN900.out; omega)); (case jl => exact HJ.out); rintro e wj ⟨rfl, hb⟩; have n0_ := Aside0.mk (below_step (HB.out) hb); clear HB; have HB := n0_; clear n0_ hb))
          go_ret
          exact ⟨(show Ending.returned (.string (strings_Join.J y900)) = .returned (.string r) from by rw [HR.out, HYW.out]), HB.out⟩
        · skip
          by_cases c6 : a0_0 = 6
          · have q4 : (a0_0 == 4) = false := by rw [c6]; rfl
            have q10 : (a0_0 == 10) = false := by rw [c6]; rfl
            have q5 : (a0_0 == 5) = false := by rw [c6]; rfl
            have q6 : (a0_0 == 6) = true := by rw [c6]; rfl
            have q7 : (a0_0 == 7) = false := by rw [c6]; rfl
            have HCS := Aside0.mk (show a0_0 ≠ 4 ∧ a0_0 ≠ 10 ∧ a0_0 ≠ 5 ∧ a0_0 = 6 ∧ True from ⟨c4, c10, c5, c6, trivial⟩)
            clear c4 c10 c5 c6
            go_enter Tryd.func49, Tryd.ntmps49
            go_wp2_with (first | (go_at_call 74; refine (impl_formatInstr_1.at gW (.slice A51 y51.length c51) y51 A58 c58 (impl_some.L a0_3 a0_4) w _ (HB.out) BW.out GW.out HW.out HC58.out HCL58.out ?fit901 ?len901 HTAB.out).mono ?_; (case fit901 => intro x hx; have hx := (List.mem_filter.mp hx).1; simp only [List.mem_cons, List.not_mem_nil, or_false] at hx; rcases hx with rfl | rfl <;> exact HF.out _ (by simp)); (case len901 => (have := HN51.out; have hL_ := impl_some.len a0_3 a0_4; omega)); rintro e wf901 ⟨rfl, v901, hbx, hr, hb, hk⟩; obtain ⟨y901, hy⟩ : ∃ y_, y_ = y51 ++ ((impl_some.L a0_3 a0_4)).map impl_formatInstr_1.S := ⟨_, rfl⟩; rw [← hy] at hr; have HY901 := Aside0.mk hy; have HN901 := Aside0.mk (show y901.length ≤ 9 from by have := HN51.out; rw [hy, List.length_append, List.length_map]; have hL_ := impl_some.len a0_3 a0_4; omega); obtain ⟨A901, c901, e901⟩ := Kd.R_slice hr; subst e901; have hne_ := Kd.R_ne HW.out BX.out (by decide); have n0_ := Aside0.mk (blk_kept BX.out hk (fun he => he.elim NE.out (fun h => hne_ h.symm))); have n1_ := Aside0.mk (hbx); have n2_ := Aside0.mk (hr); have n3_ := Aside0.mk (hb); clear BX BW HW HB; have BX := n0_; have BW := n1_; have HW := n2_; have HB := n3_; clear n0_ n1_ n2_ n3_; clear hbx hr hb hk hne_ hy; obtain ⟨h0_, h1_, h2_, h3_, h4_, h5_, f0_, f1_, f2_, f3_, f4_, f5_⟩ := impl_formatInstr.bx BX.out; have hw_wf901 : wf901.cell? ⟨gW, 0, none⟩ = some (Value.slice A901 y901.length c901) := (blk_cell BW.out 0).trans rfl; have hwf_wf901 := blk_frozen BW.out 0) | ((with_reducible refine gate_dst (N := 45) rfl ?_); refine Kd.R_lit (Kd.int .i64) _ 3 ?hg45 (N := 45) ?hd45 (xs := [a0_1, a0_2]) (inner := [.int .i64 a0_1, .int .i64 a0_2]) (ok := fun _ => True) (okp := fun _ => True) ?hr45 ?hp45 (fun _ hk => hk) trivial (Below.refl _ _) (Nat.le_refl _) (by simp) ?_; (case hd45 => rfl); (case hg45 => rfl); (case hr45 => first | (go_simp; done) | (go_simp; rfl)); (case hp45 => exact Kd.reps_scalar [a0_1, a0_2]); intro v45 wl45 ho hb hg_ hnew_; obtain ⟨A45, c45, e45, hcl, hC⟩ := impl_formatInstr.lit ho (blk_lt BW.out) (Kd.R_lt HW.out); subst e45; have HC45 := Aside0.mk hC; have HCL45 := Aside0.mk hcl; clear hC hcl; have n0_ := Aside0.mk (blk_below BX.out hb); have n1_ := Aside0.mk (blk_below BW.out hb); have n2_ := Aside0.mk (Kd.R_below HW.out hb); have n3_ := Aside0.mk (below_step (HB.out) hb); clear BX BW HW HB; have BX := n0_; have BW := n1_; have HW := n2_; have HB := n3_; clear n0_ n1_ n2_ n3_; clear hb ho hg_ hnew_; obtain ⟨h0_, h1_, h2_, h3_, h4_, h5_, f0_, f1_, f2_, f3_, f4_, f5_⟩ := impl_formatInstr.bx BX.out; have hw_wl45 : wl45.cell? ⟨gW, 0, none⟩ = some (Value.slice A8 y8.length c8) := (blk_cell BW.out 0).trans rfl; have hwf_wl45 := blk_frozen BW.out 0) | (go_at_call 74; refine (impl_formatInstr_1.at gW (.slice A8 y8.length c8) y8 A45 c45 [a0_1, a0_2] w _ (HB.out) BW.out GW.out HW.out HC45.out HCL45.out ?fit900 ?len900 HTAB.out).mono ?_; (case fit900 => intro x hx; simp only [List.mem_cons, List.not_mem_nil, or_false] at hx; rcases hx with rfl | rfl <;> exact HF.out _ (by simp)); (case len900 => (have := HN8.out; simp only [List.length_cons, List.length_nil]; omega)); rintro e wf900 ⟨rfl, v900, hbx, hr, hb, hk⟩; obtain ⟨y900, hy⟩ : ∃ y_, y_ = y8 ++ ([a0_1, a0_2]).map impl_formatInstr_1.S := ⟨_, rfl⟩; rw [← hy] at hr; have HY900 := Aside0.mk hy; have HN900 := Aside0.mk (show y900.length ≤ 5 from by have := HN8.out; rw [hy, List.length_append, List.length_map]; simp only [List.length_cons, List.length_nil]; omega); obtain ⟨A900, c900, e900⟩ := Kd.R_slice hr; subst e900; have hne_ := Kd.R_ne HW.out BX.out (by decide); have n0_ := Aside0.mk (blk_kept BX.out hk (fun he => he.elim NE.out (fun h => hne_ h.symm))); have n1_ := Aside0.mk (hbx); have n2_ := Aside0.mk (hr); have n3_ := Aside0.mk (hb); clear BX BW HW HB; have BX := n0_; have BW := n1_; have HW := n2_; have HB := n3_; clear n0_ n1_ n2_ n3_; clear hbx hr hb hk hne_ hy; obtain ⟨h0_, h1_, h2_, h3_, h4_, h5_, f0_, f1_, f2_, f3_, f4_, f5_⟩ := impl_formatInstr.bx BX.out; have hw_wf900 : wf900.cell? ⟨gW, 0, none⟩ = some (Value.slice A900 y900.length c900) := (blk_cell BW.out 0).trans rfl; have hwf_wf900 := blk_frozen BW.out 0) | ((with_reducible refine gate_dst (N := 50) rfl ?_); refine Kd.R_lit Kd.string _ 9 ?hg50 (N := 50) ?hd50 (xs := [a0_5]) (inner := [.string a0_5]) (ok := fun _ => True) (okp := fun _ => True) ?hr50 ?hp50 (fun _ hk => hk) trivial (Below.refl _ _) (Nat.le_refl _) (by simp) ?_; (case hd50 => rfl); (case hg50 => rfl); (case hr50 => first | (go_simp; done) | (go_simp; rfl)); (case hp50 => exact Kd.reps_scalar [a0_5]); intro v50 wl50 ho hb hg_ hnew_; obtain ⟨A50, c50, e50, hcl, hC⟩ := Kd.R_reads ho; subst e50; have HC50 := Aside0.mk hC; clear hC hcl; have n0_ := Aside0.mk (blk_below BX.out hb); have n1_ := Aside0.mk (blk_below BW.out hb); have n2_ := Aside0.mk (Kd.R_below HW.out hb); have n3_ := Aside0.mk (below_step (HB.out) hb); clear BX BW HW HB; have BX := n0_; have BW := n1_; have HW := n2_; have HB := n3_; clear n0_ n1_ n2_ n3_; clear hb ho hg_ hnew_; obtain ⟨h0_, h1_, h2_, h3_, h4_, h5_, f0_, f1_, f2_, f3_, f4_, f5_⟩ := impl_formatInstr.bx BX.out; have hw_wl50 : wl50.cell? ⟨gW, 0, none⟩ = some (Value.slice A900 y900.length c900) := (blk_cell BW.out 0).trans rfl; have hwf_wl50 := blk_frozen BW.out 0) | ((with_reducible refine gate_builtin (b := .append) (xs := #[.tmp 47, .tmp 50]) rfl ?_); at_builtin; refine Kd.R_append_row Value.string ByteArray.empty (h1 := fun _ => rfl) (w0 := w) w.heap.size rfl (.tmp 47) (.tmp 50) 62 9 (.string ⟨#[]⟩) 16 rfl Tryd.underlying62 info9 rfl (by decide) (.slice A900 y900.length c900) y900 [a0_5] A50 [a0_5].length c50 (fun _ => True) rfl rfl (fun _ _ => trivial) HW.out HC50.out (HB.out) (below_size (HB.out)) ?aL51 ?_; (case aL51 => (have hl_ := HN900.out; simp only [List.length_singleton]; omega)); intro v51 wa51 ho hb hg hat; obtain ⟨y51, hy⟩ : ∃ y_, y_ = y900 ++ [a0_5] := ⟨_, rfl⟩; rw [← hy] at ho; have HY51 := Aside0.mk hy; have HN51 := Aside0.mk (show y51.length ≤ 6 from by have := HN900.out; rw [hy, List.length_append]; simp only [List.length_cons, List.length_nil]; omega); obtain ⟨A51, c51, e51⟩ := Kd.R_slice ho; subst e51; have hnx_ := Kd.R_ne HW.out BX.out (by decide); have hnw_ := Kd.R_ne HW.out BW.out (by decide); have n0_ := Aside0.mk ((hg.block gx (blk_lt BX.out) hnx_).trans BX.out); have n1_ := Aside0.mk ((hg.block gW (blk_lt BW.out) hnw_).trans BW.out); have n2_ := Aside0.mk (ho); have n3_ := Aside0.mk (hb); clear BX BW HW HB; have BX := n0_; have BW := n1_; have HW := n2_; have HB := n3_; clear n0_ n1_ n2_ n3_; clear ho hb hg hat hnx_ hnw_ hy; obtain ⟨h0_, h1_, h2_, h3_, h4_, h5_, f0_, f1_, f2_, f3_, f4_, f5_⟩ := impl_formatInstr.bx BX.out; have hw_wa51 : wa51.cell? ⟨gW, 0, none⟩ = some (Value.slice A900 y900.length c900) := (blk_cell BW.out 0).trans rfl; have hwf_wa51 := blk_frozen BW.out 0) | ((with_reducible refine gate_store (t := 62) (p := 3) rfl ?_); refine store_event (t := 62) (p := 3) (v := ?vo51) (w1 := (wa51.setCell ⟨gW, 0, none⟩ (.slice A51 y51.length c51))) ?hgs51 ?hos51 ?hns51 ?hrs51 ?_; (case hos51 => rfl); (case hgs51 => rfl); (case hns51 => rfl); (case hrs51 => first | (go_simp; done) | (go_simp; rfl)); intro ws51 hw; have n0_ := Aside0.mk (show Kd.R Kd.string 9 ws51 w.heap.size (fun _ => True) (.slice A51 y51.length c51) y51 from by rw [hw]; exact Kd.R_set HW.out BW.out (by decide) 0 _); have n1_ := Aside0.mk (show ws51.heap[gx]? = some (.cells #[.int .i64 a0_0, .int .i64 a0_1, .int .i64 a0_2, .int .i64 a0_3, .int .i64 a0_4, .string a0_5] 27 (0, 0)) from by rw [hw]; exact (Below.heap_setCell wa51 ⟨gW, 0, none⟩ _ gx NE.out).trans BX.out); have n2_ := Aside0.mk (show ws51.heap[gW]? = some (.cells #[.slice A51 y51.length c51] 62 (0, 0)) from by rw [hw]; exact blk_put BW.out 0 _ rfl); have n3_ := Aside0.mk (show Below w.heap.size w ws51 from by rw [hw]; exact below_set HB.out GW.out); clear HW BX BW HB; have HW := n0_; have BX := n1_; have BW := n2_; have HB := n3_; clear n0_ n1_ n2_ n3_; clear hw; obtain ⟨h0_, h1_, h2_, h3_, h4_, h5_, f0_, f1_, f2_, f3_, f4_, f5_⟩ := impl_formatInstr.bx BX.out; have hw_ws51 : ws51.cell? ⟨gW, 0, none⟩ = some (Value.slice A51 y51.length c51) := (blk_cell BW.out 0).trans rfl; have hwf_ws51 := blk_frozen BW.out 0) | ((with_reducible refine gate_dst (N := 57) rfl ?_); refine Kd.R_lit (Kd.int .i64) _ 3 ?hg57 (N := 57) ?hd57 (xs := [a0_3, a0_4]) (inner := [.int .i64 a0_3, .int .i64 a0_4]) (ok := fun _ => True) (okp := fun _ => True) ?hr57 ?hp57 (fun _ hk => hk) trivial (Below.refl _ _) (Nat.le_refl _) (by simp) ?_; (case hd57 => rfl); (case hg57 => rfl); (case hr57 => first | (go_simp; done) | (go_simp; rfl)); (case hp57 => exact Kd.reps_scalar [a0_3, a0_4]); intro v57 wl57 ho hb hg_ hnew_; obtain ⟨A57, c57, e57⟩ := Kd.R_slice ho; subst e57; have HO57 := Aside0.mk ho; have HLT57 := Aside0.mk (blk_lt BW.out); have HLX57 := Aside0.mk (blk_lt BX.out); have HLV57 := Aside0.mk (Kd.R_lt HW.out); have HLB57 := Aside0.mk (below_size (HB.out)); have n0_ := Aside0.mk (blk_below BX.out hb); have n1_ := Aside0.mk (blk_below BW.out hb); have n2_ := Aside0.mk (Kd.R_below HW.out hb); have n3_ := Aside0.mk (below_step (HB.out) hb); clear BX BW HW HB; have BX := n0_; have BW := n1_; have HW := n2_; have HB := n3_; clear n0_ n1_ n2_ n3_; clear hb ho hg_ hnew_; obtain ⟨h0_, h1_, h2_, h3_, h4_, h5_, f0_, f1_, f2_, f3_, f4_, f5_⟩ := impl_formatInstr.bx BX.out; have hw_wl57 : wl57.cell? ⟨gW, 0, none⟩ = some (Value.slice A51 y51.length c51) := (blk_cell BW.out 0).trans rfl; have hwf_wl57 := blk_frozen BW.out 0) | (go_at_call 42; refine (impl_some.at _ a0_3 a0_4 _ _ _ HO57.out).mono ?_; rintro e wo58 ⟨vo58, rfl, hro, hgr, hob⟩; have hK_ : Kept wl57 wo58 (fun k => (Value.slice A57 [a0_3, a0_4].length c57).ownBlock = some k) := ⟨hgr.size, fun i hi hs => hgr.block i hi (fun he => hs he.symm)⟩; have hbs_ := Kd.R_base HO57.out; have n0_ := Aside0.mk (blk_kept BX.out hK_ (fun he => absurd (hbs_ _ he) (Nat.not_le_of_lt HLX57.out))); have n1_ := Aside0.mk (blk_kept BW.out hK_ (fun he => absurd (hbs_ _ he) (Nat.not_le_of_lt HLT57.out))); have n2_ := Aside0.mk (impl_formatInstr.keepS HW.out hK_ (fun k hk he => absurd (hbs_ _ he) (Nat.not_le_of_lt (HLV57.out k hk)))); have n3_ := Aside0.mk (Below.grown HB.out hgr (below_size HB.out) (fun k hk => Nat.le_trans HLB57.out (hbs_ k hk))); clear BX BW HW HB; have BX := n0_; have BW := n1_; have HW := n2_; have HB := n3_; clear n0_ n1_ n2_ n3_; obtain ⟨A58, c58, e58, hcl, hC⟩ := impl_formatInstr.lit hro HLT57.out HLV57.out; subst e58; have HC58 := Aside0.mk hC; have HCL58 := Aside0.mk hcl; clear hC hcl hro hgr hob hK_ hbs_; obtain ⟨h0_, h1_, h2_, h3_, h4_, h5_, f0_, f1_, f2_, f3_, f4_, f5_⟩ := impl_formatInstr.bx BX.out; have hw_wo58 : wo58.cell? ⟨gW, 0, none⟩ = some (Value.slice A51 y51.length c51) := (blk_cell BW.out 0).trans rfl; have hwf_wo58 := blk_frozen BW.out 0) | ((with_reducible refine gate_dst (N := 1) rfl ?_); refine box_event ?hg1 (N := 1) ?hd1 (cs := #[.int .i64 a0_0, .int .i64 a0_1, .int .i64 a0_2, .int .i64 a0_3, .int .i64 a0_4, .string a0_5]) (t := 27) ?hr1 ?_; (case hd1 => rfl); (case hg1 => rfl); (case hr1 => first | (go_simp; done) | (go_simp; rfl)); intro gx hg w1 hbox hb; have n0_ := Aside0.mk (below_step (HB.out) hb); have n1_ := Aside0.mk (hbox); have n2_ := Aside0.mk ((by rw [hg]; exact below_size (HB.out) : w.heap.size ≤ gx)); clear HB; have HB := n0_; have BX := n1_; have GX := n2_; clear n0_ n1_ n2_; clear hb hbox hg; obtain ⟨h0_, h1_, h2_, h3_, h4_, h5_, f0_, f1_, f2_, f3_, f4_, f5_⟩ := impl_formatInstr.bx BX.out) | (go_at_call 10; (with_reducible refine (impl_OpName.calls a0_0 o _ AO.out ?tab10).mono ?_); (case tab10 => exact (HTAB.out).below (HB.out)); rintro e w2 ⟨rfl, hb⟩; have n0_ := Aside0.mk (blk_below BX.out hb); have n1_ := Aside0.mk (below_step (HB.out) hb); clear BX HB; have BX := n0_; have HB := n1_; clear n0_ n1_; clear hb; obtain ⟨h0_, h1_, h2_, h3_, h4_, h5_, f0_, f1_, f2_, f3_, f4_, f5_⟩ := impl_formatInstr.bx BX.out) | ((with_reducible refine gate_dst (N := 8) rfl ?_); refine Kd.R_lit Kd.string (w0 := w) w.heap.size 9 ?hg8 (N := 8) ?hd8 (xs := [o]) (inner := [.string o]) (ok := fun _ => True) (okp := fun _ => True) ?hr8 ?hp8 (fun _ hk => hk) trivial (HB.out) (below_size (HB.out)) (by simp) ?_; (case hd8 => rfl); (case hg8 => rfl); (case hr8 => first | (go_simp; done) | (go_simp; rfl)); (case hp8 => exact Kd.reps_scalar [o]); intro v8 w3 ho hb hg_ hnew_; obtain ⟨y8, hy8⟩ : ∃ y_, y_ = [o] := ⟨_, rfl⟩; rw [← hy8] at ho; have HY8 := Aside0.mk hy8; have HN8 := Aside0.mk (show y8.length ≤ 1 from by rw [hy8]; simp); obtain ⟨A8, c8, e8⟩ := Kd.R_slice ho; subst e8; have n0_ := Aside0.mk ((hg_.block gx (blk_lt BX.out) (by simp)).trans BX.out); have n1_ := Aside0.mk (hb); have n2_ := Aside0.mk (ho); clear BX HB; have BX := n0_; have HB := n1_; have HW := n2_; clear n0_ n1_ n2_; clear hb ho hg_ hnew_ hy8; obtain ⟨h0_, h1_, h2_, h3_, h4_, h5_, f0_, f1_, f2_, f3_, f4_, f5_⟩ := impl_formatInstr.bx BX.out) | ((with_reducible refine gate_dst (N := 3) rfl ?_); refine box_event ?hg3 (N := 3) ?hd3 (cs := #[.slice none 0 0]) (t := 62) ?hr3 ?_; (case hd3 => rfl); (case hg3 => rfl); (case hr3 => first | (go_simp; done) | (go_simp; rfl)); intro gW hg w4 hbox hb; have NE := Aside0.mk (show gx ≠ gW from by rw [hg]; exact Nat.ne_of_lt (blk_lt BX.out)); have GW := Aside0.mk (show w.heap.size ≤ gW from by rw [hg]; exact below_size (HB.out)); have n0_ := Aside0.mk (blk_below BX.out hb); have n1_ := Aside0.mk (Kd.R_below HW.out hb); have n2_ := Aside0.mk (below_step (HB.out) hb); have n3_ := Aside0.mk (hbox); clear BX HW HB; have BX := n0_; have HW := n1_; have HB := n2_; have BW := n3_; clear n0_ n1_ n2_ n3_; clear hb hbox hg; have hw_w4 : w4.cell? ⟨gW, 0, none⟩ = some (Value.slice none 0 0) := (blk_cell BW.out 0).trans rfl; have hwf_w4 := blk_frozen BW.out 0; obtain ⟨h0_, h1_, h2_, h3_, h4_, h5_, f0_, f1_, f2_, f3_, f4_, f5_⟩ := impl_formatInstr.bx BX.out) | ((with_reducible refine gate_store (t := 62) (p := 3) rfl ?_); refine store_event (t := 62) (p := 3) (v := ?vo3) (w1 := (w4.setCell ⟨gW, 0, none⟩ (.slice A8 y8.length c8))) ?hgs3 ?hos3 ?hns3 ?hrs3 ?_; (case hos3 => rfl); (case hgs3 => rfl); (case hns3 => rfl); (case hrs3 => first | (go_simp; done) | (go_simp; rfl)); intro ws3 hw; have n0_ := Aside0.mk (show Kd.R Kd.string 9 ws3 w.heap.size (fun _ => True) (.slice A8 y8.length c8) y8 from by rw [hw]; exact Kd.R_set HW.out BW.out (by decide) 0 _); have n1_ := Aside0.mk (show ws3.heap[gx]? = some (.cells #[.int .i64 a0_0, .int .i64 a0_1, .int .i64 a0_2, .int .i64 a0_3, .int .i64 a0_4, .string a0_5] 27 (0, 0)) from by rw [hw]; exact (Below.heap_setCell w4 ⟨gW, 0, none⟩ _ gx NE.out).trans BX.out); have n2_ := Aside0.mk (show ws3.heap[gW]? = some (.cells #[.slice A8 y8.length c8] 62 (0, 0)) from by rw [hw]; exact blk_put BW.out 0 _ rfl); have n3_ := Aside0.mk (show Below w.heap.size w ws3 from by rw [hw]; exact below_set HB.out GW.out); clear HW BX BW HB; have HW := n0_; have BX := n1_; have BW := n2_; have HB := n3_; clear n0_ n1_ n2_ n3_; clear hw; obtain ⟨h0_, h1_, h2_, h3_, h4_, h5_, f0_, f1_, f2_, f3_, f4_, f5_⟩ := impl_formatInstr.bx BX.out; have hw_ws3 : ws3.cell? ⟨gW, 0, none⟩ = some (Value.slice A8 y8.length c8) := (blk_cell BW.out 0).trans rfl; have hwf_ws3 := blk_frozen BW.out 0) | (go_at_call 76; have hyW : y901 = impl_formatInstr.W o a0_0 a0_1 a0_2 a0_3 a0_4 a0_5 := (by have HCT := HCS.out; unfold impl_formatInstr.W; rw [if_neg (by omega), if_neg (by omega), if_pos (by omega)]; rw [HY901.out, HY51.out, HY900.out, HY8.out]); have HP := Aside0.mk (show 0 < y901.length from by rw [HY901.out, HY51.out, HY900.out, HY8.out]; simp only [List.length_append, List.length_cons, List.length_nil]; omega); have HJ := Aside0.mk (show (Go.Lib.join (y901.map (·.data.toList)) [32]).length ≤ 140737488355328 from by rw [hyW]; exact HJW.out); have HYW := Aside0.mk hyW; clear hyW; refine (strings_Join.at _ y901 (HP.out) w.heap.size _ _ HW.out ?jn ?jl).mono ?_; (case jn => (have := HN901.out; omega)); (case jl => exact HJ.out); rintro e wj ⟨rfl, hb⟩; have n0_ := Aside0.mk (below_step (HB.out) hb); clear HB; have HB := n0_; clear n0_ hb))
            go_ret
            exact ⟨(show Ending.returned (.string (strings_Join.J y901)) = .returned (.string r) from by rw [HR.out, HYW.out]), HB.out⟩
          · skip
            by_cases c7 : a0_0 = 7
            · have q4 : (a0_0 == 4) = false := by rw [c7]; rfl
              have q10 : (a0_0 == 10) = false := by rw [c7]; rfl
              have q5 : (a0_0 == 5) = false := by rw [c7]; rfl
              have q6 : (a0_0 == 6) = false := by rw [c7]; rfl
              have q7 : (a0_0 == 7) = true := by rw [c7]; rfl
              have HCS := Aside0.mk (show a0_0 ≠ 4 ∧ a0_0 ≠ 10 ∧ a0_0 ≠ 5 ∧ a0_0 ≠ 6 ∧ a0_0 = 7 ∧ True from ⟨c4, c10, c5, c6, c7, trivial⟩)
              clear c4 c10 c5 c6 c7
              go_enter Tryd.func49, Tryd.ntmps49
              go_wp2_with (first | (go_at_call 74; refine (impl_formatInstr_1.at gW (.slice A71 y71.length c71) y71 A78 c78 (impl_some.L a0_3 a0_4) w _ (HB.out) BW.out GW.out HW.out HC78.out HCL78.out ?fit901 ?len901 HTAB.out).mono ?_; (case fit901 => intro x hx; have hx := (List.mem_filter.mp hx).1; simp only [List.mem_cons, List.not_mem_nil, or_false] at hx; rcases hx with rfl | rfl <;> exact HF.out _ (by simp)); (case len901 => (have := HN71.out; have hL_ := impl_some.len a0_3 a0_4; omega)); rintro e wf901 ⟨rfl, v901, hbx, hr, hb, hk⟩; obtain ⟨y901, hy⟩ : ∃ y_, y_ = y71 ++ ((impl_some.L a0_3 a0_4)).map impl_formatInstr_1.S := ⟨_, rfl⟩; rw [← hy] at hr; have HY901 := Aside0.mk hy; have HN901 := Aside0.mk (show y901.length ≤ 9 from by have := HN71.out; rw [hy, List.length_append, List.length_map]; have hL_ := impl_some.len a0_3 a0_4; omega); obtain ⟨A901, c901, e901⟩ := Kd.R_slice hr; subst e901; have hne_ := Kd.R_ne HW.out BX.out (by decide); have n0_ := Aside0.mk (blk_kept BX.out hk (fun he => he.elim NE.out (fun h => hne_ h.symm))); have n1_ := Aside0.mk (hbx); have n2_ := Aside0.mk (hr); have n3_ := Aside0.mk (hb); clear BX BW HW HB; have BX := n0_; have BW := n1_; have HW := n2_; have HB := n3_; clear n0_ n1_ n2_ n3_; clear hbx hr hb hk hne_ hy; obtain ⟨h0_, h1_, h2_, h3_, h4_, h5_, f0_, f1_, f2_, f3_, f4_, f5_⟩ := impl_formatInstr.bx BX.out; have hw_wf901 : wf901.cell? ⟨gW, 0, none⟩ = some (Value.slice A901 y901.length c901) := (blk_cell BW.out 0).trans rfl; have hwf_wf901 := blk_frozen BW.out 0) | ((with_reducible refine gate_dst (N := 65) rfl ?_); refine Kd.R_lit (Kd.int .i64) _ 3 ?hg65 (N := 65) ?hd65 (xs := [a0_1]) (inner := [.int .i64 a0_1]) (ok := fun _ => True) (okp := fun _ => True) ?hr65 ?hp65 (fun _ hk => hk) trivial (Below.refl _ _) (Nat.le_refl _) (by simp) ?_; (case hd65 => rfl); (case hg65 => rfl); (case hr65 => first | (go_simp; done) | (go_simp; rfl)); (case hp65 => exact Kd.reps_scalar [a0_1]); intro v65 wl65 ho hb hg_ hnew_; obtain ⟨A65, c65, e65, hcl, hC⟩ := impl_formatInstr.lit ho (blk_lt BW.out) (Kd.R_lt HW.out); subst e65; have HC65 := Aside0.mk hC; have HCL65 := Aside0.mk hcl; clear hC hcl; have n0_ := Aside0.mk (blk_below BX.out hb); have n1_ := Aside0.mk (blk_below BW.out hb); have n2_ := Aside0.mk (Kd.R_below HW.out hb); have n3_ := Aside0.mk (below_step (HB.out) hb); clear BX BW HW HB; have BX := n0_; have BW := n1_; have HW := n2_; have HB := n3_; clear n0_ n1_ n2_ n3_; clear hb ho hg_ hnew_; obtain ⟨h0_, h1_, h2_, h3_, h4_, h5_, f0_, f1_, f2_, f3_, f4_, f5_⟩ := impl_formatInstr.bx BX.out; have hw_wl65 : wl65.cell? ⟨gW, 0, none⟩ = some (Value.slice A8 y8.length c8) := (blk_cell BW.out 0).trans rfl; have hwf_wl65 := blk_frozen BW.out 0) | (go_at_call 74; refine (impl_formatInstr_1.at gW (.slice A8 y8.length c8) y8 A65 c65 [a0_1] w _ (HB.out) BW.out GW.out HW.out HC65.out HCL65.out ?fit900 ?len900 HTAB.out).mono ?_; (case fit900 => intro x hx; simp only [List.mem_cons, List.not_mem_nil, or_false] at hx; obtain rfl := hx; exact HF.out _ (by simp)); (case len900 => (have := HN8.out; simp only [List.length_cons, List.length_nil]; omega)); rintro e wf900 ⟨rfl, v900, hbx, hr, hb, hk⟩; obtain ⟨y900, hy⟩ : ∃ y_, y_ = y8 ++ ([a0_1]).map impl_formatInstr_1.S := ⟨_, rfl⟩; rw [← hy] at hr; have HY900 := Aside0.mk hy; have HN900 := Aside0.mk (show y900.length ≤ 5 from by have := HN8.out; rw [hy, List.length_append, List.length_map]; simp only [List.length_cons, List.length_nil]; omega); obtain ⟨A900, c900, e900⟩ := Kd.R_slice hr; subst e900; have hne_ := Kd.R_ne HW.out BX.out (by decide); have n0_ := Aside0.mk (blk_kept BX.out hk (fun he => he.elim NE.out (fun h => hne_ h.symm))); have n1_ := Aside0.mk (hbx); have n2_ := Aside0.mk (hr); have n3_ := Aside0.mk (hb); clear BX BW HW HB; have BX := n0_; have BW := n1_; have HW := n2_; have HB := n3_; clear n0_ n1_ n2_ n3_; clear hbx hr hb hk hne_ hy; obtain ⟨h0_, h1_, h2_, h3_, h4_, h5_, f0_, f1_, f2_, f3_, f4_, f5_⟩ := impl_formatInstr.bx BX.out; have hw_wf900 : wf900.cell? ⟨gW, 0, none⟩ = some (Value.slice A900 y900.length c900) := (blk_cell BW.out 0).trans rfl; have hwf_wf900 := blk_frozen BW.out 0) | ((with_reducible refine gate_dst (N := 70) rfl ?_); refine Kd.R_lit Kd.string _ 9 ?hg70 (N := 70) ?hd70 (xs := [a0_5]) (inner := [.string a0_5]) (ok := fun _ => True) (okp := fun _ => True) ?hr70 ?hp70 (fun _ hk => hk) trivial (Below.refl _ _) (Nat.le_refl _) (by simp) ?_; (case hd70 => rfl); (case hg70 => rfl); (case hr70 => first | (go_simp; done) | (go_simp; rfl)); (case hp70 => exact Kd.reps_scalar [a0_5]); intro v70 wl70 ho hb hg_ hnew_; obtain ⟨A70, c70, e70, hcl, hC⟩ := Kd.R_reads ho; subst e70; have HC70 := Aside0.mk hC; clear hC hcl; have n0_ := Aside0.mk (blk_below BX.out hb); have n1_ := Aside0.mk (blk_below BW.out hb); have n2_ := Aside0.mk (Kd.R_below HW.out hb); have n3_ := Aside0.mk (below_step (HB.out) hb); clear BX BW HW HB; have BX := n0_; have BW := n1_; have HW := n2_; have HB := n3_; clear n0_ n1_ n2_ n3_; clear hb ho hg_ hnew_; obtain ⟨h0_, h1_, h2_, h3_, h4_, h5_, f0_, f1_, f2_, f3_, f4_, f5_⟩ := impl_formatInstr.bx BX.out; have hw_wl70 : wl70.cell? ⟨gW, 0, none⟩ = some (Value.slice A900 y900.length c900) := (blk_cell BW.out 0).trans rfl; have hwf_wl70 := blk_frozen BW.out 0) | ((with_reducible refine gate_builtin (b := .append) (xs := #[.tmp 67, .tmp 70]) rfl ?_); at_builtin; refine Kd.R_append_row Value.string ByteArray.empty (h1 := fun _ => rfl) (w0 := w) w.heap.size rfl (.tmp 67) (.tmp 70) 62 9 (.string ⟨#[]⟩) 16 rfl Tryd.underlying62 info9 rfl (by decide) (.slice A900 y900.length c900) y900 [a0_5] A70 [a0_5].length c70 (fun _ => True) rfl rfl (fun _ _ => trivial) HW.out HC70.out (HB.out) (below_size (HB.out)) ?aL71 ?_; (case aL71 => (have hl_ := HN900.out; simp only [List.length_singleton]; omega)); intro v71 wa71 ho hb hg hat; obtain ⟨y71, hy⟩ : ∃ y_, y_ = y900 ++ [a0_5] := ⟨_, rfl⟩; rw [← hy] at ho; have HY71 := Aside0.mk hy; have HN71 := Aside0.mk (show y71.length ≤ 6 from by have := HN900.out; rw [hy, List.length_append]; simp only [List.length_cons, List.length_nil]; omega); obtain ⟨A71, c71, e71⟩ := Kd.R_slice ho; subst e71; have hnx_ := Kd.R_ne HW.out BX.out (by decide); have hnw_ := Kd.R_ne HW.out BW.out (by decide); have n0_ := Aside0.mk ((hg.block gx (blk_lt BX.out) hnx_).trans BX.out); have n1_ := Aside0.mk ((hg.block gW (blk_lt BW.out) hnw_).trans BW.out); have n2_ := Aside0.mk (ho); have n3_ := Aside0.mk (hb); clear BX BW HW HB; have BX := n0_; have BW := n1_; have HW := n2_; have HB := n3_; clear n0_ n1_ n2_ n3_; clear ho hb hg hat hnx_ hnw_ hy; obtain ⟨h0_, h1_, h2_, h3_, h4_, h5_, f0_, f1_, f2_, f3_, f4_, f5_⟩ := impl_formatInstr.bx BX.out; have hw_wa71 : wa71.cell? ⟨gW, 0, none⟩ = some (Value.slice A900 y900.length c900) := (blk_cell BW.out 0).trans rfl; have hwf_wa71 := blk_frozen BW.out 0) | ((with_reducible refine gate_store (t := 62) (p := 3) rfl ?_); refine store_event (t := 62) (p := 3) (v := ?vo71) (w1 := (wa71.setCell ⟨gW, 0, none⟩ (.slice A71 y71.length c71))) ?hgs71 ?hos71 ?hns71 ?hrs71 ?_; (case hos71 => rfl); (case hgs71 => rfl); (case hns71 => rfl); (case hrs71 => first | (go_simp; done) | (go_simp; rfl)); intro ws71 hw; have n0_ := Aside0.mk (show Kd.R Kd.string 9 ws71 w.heap.size (fun _ => True) (.slice A71 y71.length c71) y71 from by rw [hw]; exact Kd.R_set HW.out BW.out (by decide) 0 _); have n1_ := Aside0.mk (show ws71.heap[gx]? = some (.cells #[.int .i64 a0_0, .int .i64 a0_1, .int .i64 a0_2, .int .i64 a0_3, .int .i64 a0_4, .string a0_5] 27 (0, 0)) from by rw [hw]; exact (Below.heap_setCell wa71 ⟨gW, 0, none⟩ _ gx NE.out).trans BX.out); have n2_ := Aside0.mk (show ws71.heap[gW]? = some (.cells #[.slice A71 y71.length c71] 62 (0, 0)) from by rw [hw]; exact blk_put BW.out 0 _ rfl); have n3_ := Aside0.mk (show Below w.heap.size w ws71 from by rw [hw]; exact below_set HB.out GW.out); clear HW BX BW HB; have HW := n0_; have BX := n1_; have BW := n2_; have HB := n3_; clear n0_ n1_ n2_ n3_; clear hw; obtain ⟨h0_, h1_, h2_, h3_, h4_, h5_, f0_, f1_, f2_, f3_, f4_, f5_⟩ := impl_formatInstr.bx BX.out; have hw_ws71 : ws71.cell? ⟨gW, 0, none⟩ = some (Value.slice A71 y71.length c71) := (blk_cell BW.out 0).trans rfl; have hwf_ws71 := blk_frozen BW.out 0) | ((with_reducible refine gate_dst (N := 77) rfl ?_); refine Kd.R_lit (Kd.int .i64) _ 3 ?hg77 (N := 77) ?hd77 (xs := [a0_3, a0_4]) (inner := [.int .i64 a0_3, .int .i64 a0_4]) (ok := fun _ => True) (okp := fun _ => True) ?hr77 ?hp77 (fun _ hk => hk) trivial (Below.refl _ _) (Nat.le_refl _) (by simp) ?_; (case hd77 => rfl); (case hg77 => rfl); (case hr77 => first | (go_simp; done) | (go_simp; rfl)); (case hp77 => exact Kd.reps_scalar [a0_3, a0_4]); intro v77 wl77 ho hb hg_ hnew_; obtain ⟨A77, c77, e77⟩ := Kd.R_slice ho; subst e77; have HO77 := Aside0.mk ho; have HLT77 := Aside0.mk (blk_lt BW.out); have HLX77 := Aside0.mk (blk_lt BX.out); have HLV77 := Aside0.mk (Kd.R_lt HW.out); have HLB77 := Aside0.mk (below_size (HB.out)); have n0_ := Aside0.mk (blk_below BX.out hb); have n1_ := Aside0.mk (blk_below BW.out hb); have n2_ := Aside0.mk (Kd.R_below HW.out hb); have n3_ := Aside0.mk (below_step (HB.out) hb); clear BX BW HW HB; have BX := n0_; have BW := n1_; have HW := n2_; have HB := n3_; clear n0_ n1_ n2_ n3_; clear hb ho hg_ hnew_; obtain ⟨h0_, h1_, h2_, h3_, h4_, h5_, f0_, f1_, f2_, f3_, f4_, f5_⟩ := impl_formatInstr.bx BX.out; have hw_wl77 : wl77.cell? ⟨gW, 0, none⟩ = some (Value.slice A71 y71.length c71) := (blk_cell BW.out 0).trans rfl; have hwf_wl77 := blk_frozen BW.out 0) | (go_at_call 42; refine (impl_some.at _ a0_3 a0_4 _ _ _ HO77.out).mono ?_; rintro e wo78 ⟨vo78, rfl, hro, hgr, hob⟩; have hK_ : Kept wl77 wo78 (fun k => (Value.slice A77 [a0_3, a0_4].length c77).ownBlock = some k) := ⟨hgr.size, fun i hi hs => hgr.block i hi (fun he => hs he.symm)⟩; have hbs_ := Kd.R_base HO77.out; have n0_ := Aside0.mk (blk_kept BX.out hK_ (fun he => absurd (hbs_ _ he) (Nat.not_le_of_lt HLX77.out))); have n1_ := Aside0.mk (blk_kept BW.out hK_ (fun he => absurd (hbs_ _ he) (Nat.not_le_of_lt HLT77.out))); have n2_ := Aside0.mk (impl_formatInstr.keepS HW.out hK_ (fun k hk he => absurd (hbs_ _ he) (Nat.not_le_of_lt (HLV77.out k hk)))); have n3_ := Aside0.mk (Below.grown HB.out hgr (below_size HB.out) (fun k hk => Nat.le_trans HLB77.out (hbs_ k hk))); clear BX BW HW HB; have BX := n0_; have BW := n1_; have HW := n2_; have HB := n3_; clear n0_ n1_ n2_ n3_; obtain ⟨A78, c78, e78, hcl, hC⟩ := impl_formatInstr.lit hro HLT77.out HLV77.out; subst e78; have HC78 := Aside0.mk hC; have HCL78 := Aside0.mk hcl; clear hC hcl hro hgr hob hK_ hbs_; obtain ⟨h0_, h1_, h2_, h3_, h4_, h5_, f0_, f1_, f2_, f3_, f4_, f5_⟩ := impl_formatInstr.bx BX.out; have hw_wo78 : wo78.cell? ⟨gW, 0, none⟩ = some (Value.slice A71 y71.length c71) := (blk_cell BW.out 0).trans rfl; have hwf_wo78 := blk_frozen BW.out 0) | ((with_reducible refine gate_dst (N := 1) rfl ?_); refine box_event ?hg1 (N := 1) ?hd1 (cs := #[.int .i64 a0_0, .int .i64 a0_1, .int .i64 a0_2, .int .i64 a0_3, .int .i64 a0_4, .string a0_5]) (t := 27) ?hr1 ?_; (case hd1 => rfl); (case hg1 => rfl); (case hr1 => first | (go_simp; done) | (go_simp; rfl)); intro gx hg w1 hbox hb; have n0_ := Aside0.mk (below_step (HB.out) hb); have n1_ := Aside0.mk (hbox); have n2_ := Aside0.mk ((by rw [hg]; exact below_size (HB.out) : w.heap.size ≤ gx)); clear HB; have HB := n0_; have BX := n1_; have GX := n2_; clear n0_ n1_ n2_; clear hb hbox hg; obtain ⟨h0_, h1_, h2_, h3_, h4_, h5_, f0_, f1_, f2_, f3_, f4_, f5_⟩ := impl_formatInstr.bx BX.out) | (go_at_call 10; (with_reducible refine (impl_OpName.calls a0_0 o _ AO.out ?tab10).mono ?_); (case tab10 => exact (HTAB.out).below (HB.out)); rintro e w2 ⟨rfl, hb⟩; have n0_ := Aside0.mk (blk_below BX.out hb); have n1_ := Aside0.mk (below_step (HB.out) hb); clear BX HB; have BX := n0_; have HB := n1_; clear n0_ n1_; clear hb; obtain ⟨h0_, h1_, h2_, h3_, h4_, h5_, f0_, f1_, f2_, f3_, f4_, f5_⟩ := impl_formatInstr.bx BX.out) | ((with_reducible refine gate_dst (N := 8) rfl ?_); refine Kd.R_lit Kd.string (w0 := w) w.heap.size 9 ?hg8 (N := 8) ?hd8 (xs := [o]) (inner := [.string o]) (ok := fun _ => True) (okp := fun _ => True) ?hr8 ?hp8 (fun _ hk => hk) trivial (HB.out) (below_size (HB.out)) (by simp) ?_; (case hd8 => rfl); (case hg8 => rfl); (case hr8 => first | (go_simp; done) | (go_simp; rfl)); (case hp8 => exact Kd.reps_scalar [o]); intro v8 w3 ho hb hg_ hnew_; obtain ⟨y8, hy8⟩ : ∃ y_, y_ = [o] := ⟨_, rfl⟩; rw [← hy8] at ho; have HY8 := Aside0.mk hy8; have HN8 := Aside0.mk (show y8.length ≤ 1 from by rw [hy8]; simp); obtain ⟨A8, c8, e8⟩ := Kd.R_slice ho; subst e8; have n0_ := Aside0.mk ((hg_.block gx (blk_lt BX.out) (by simp)).trans BX.out); have n1_ := Aside0.mk (hb); have n2_ := Aside0.mk (ho); clear BX HB; have BX := n0_; have HB := n1_; have HW := n2_; clear n0_ n1_ n2_; clear hb ho hg_ hnew_ hy8; obtain ⟨h0_, h1_, h2_, h3_, h4_, h5_, f0_, f1_, f2_, f3_, f4_, f5_⟩ := impl_formatInstr.bx BX.out) | ((with_reducible refine gate_dst (N := 3) rfl ?_); refine box_event ?hg3 (N := 3) ?hd3 (cs := #[.slice none 0 0]) (t := 62) ?hr3 ?_; (case hd3 => rfl); (case hg3 => rfl); (case hr3 => first | (go_simp; done) | (go_simp; rfl)); intro gW hg w4 hbox hb; have NE := Aside0.mk (show gx ≠ gW from by rw [hg]; exact Nat.ne_of_lt (blk_lt BX.out)); have GW := Aside0.mk (show w.heap.size ≤ gW from by rw [hg]; exact below_size (HB.out)); have n0_ := Aside0.mk (blk_below BX.out hb); have n1_ := Aside0.mk (Kd.R_below HW.out hb); have n2_ := Aside0.mk (below_step (HB.out) hb); have n3_ := Aside0.mk (hbox); clear BX HW HB; have BX := n0_; have HW := n1_; have HB := n2_; have BW := n3_; clear n0_ n1_ n2_ n3_; clear hb hbox hg; have hw_w4 : w4.cell? ⟨gW, 0, none⟩ = some (Value.slice none 0 0) := (blk_cell BW.out 0).trans rfl; have hwf_w4 := blk_frozen BW.out 0; obtain ⟨h0_, h1_, h2_, h3_, h4_, h5_, f0_, f1_, f2_, f3_, f4_, f5_⟩ := impl_formatInstr.bx BX.out) | ((with_reducible refine gate_store (t := 62) (p := 3) rfl ?_); refine store_event (t := 62) (p := 3) (v := ?vo3) (w1 := (w4.setCell ⟨gW, 0, none⟩ (.slice A8 y8.length c8))) ?hgs3 ?hos3 ?hns3 ?hrs3 ?_; (case hos3 => rfl); (case hgs3 => rfl); (case hns3 => rfl); (case hrs3 => first | (go_simp; done) | (go_simp; rfl)); intro ws3 hw; have n0_ := Aside0.mk (show Kd.R Kd.string 9 ws3 w.heap.size (fun _ => True) (.slice A8 y8.length c8) y8 from by rw [hw]; exact Kd.R_set HW.out BW.out (by decide) 0 _); have n1_ := Aside0.mk (show ws3.heap[gx]? = some (.cells #[.int .i64 a0_0, .int .i64 a0_1, .int .i64 a0_2, .int .i64 a0_3, .int .i64 a0_4, .string a0_5] 27 (0, 0)) from by rw [hw]; exact (Below.heap_setCell w4 ⟨gW, 0, none⟩ _ gx NE.out).trans BX.out); have n2_ := Aside0.mk (show ws3.heap[gW]? = some (.cells #[.slice A8 y8.length c8] 62 (0, 0)) from by rw [hw]; exact blk_put BW.out 0 _ rfl); have n3_ := Aside0.mk (show Below w.heap.size w ws3 from by rw [hw]; exact below_set HB.out GW.out); clear HW BX BW HB; have HW := n0_; have BX := n1_; have BW := n2_; have HB := n3_; clear n0_ n1_ n2_ n3_; clear hw; obtain ⟨h0_, h1_, h2_, h3_, h4_, h5_, f0_, f1_, f2_, f3_, f4_, f5_⟩ := impl_formatInstr.bx BX.out; have hw_ws3 : ws3.cell? ⟨gW, 0, none⟩ = some (Value.slice A8 y8.length c8) := (blk_cell BW.out 0).trans rfl; have hwf_ws3 := blk_frozen BW.out 0) | (go_at_call 76; have hyW : y901 = impl_formatInstr.W o a0_0 a0_1 a0_2 a0_3 a0_4 a0_5 := (by have HCT := HCS.out; unfold impl_formatInstr.W; rw [if_neg (by omega), if_neg (by omega), if_neg (by omega), if_pos (by omega)]; rw [HY901.out, HY71.out, HY900.out, HY8.out]); have HP := Aside0.mk (show 0 < y901.length from by rw [HY901.out, HY71.out, HY900.out, HY8.out]; simp only [List.length_append, List.length_cons, List.length_nil]; omega); have HJ := Aside0.mk (show (Go.Lib.join (y901.map (·.data.toList)) [32]).length ≤ 140737488355328 from by rw [hyW]; exact HJW.out); have HYW := Aside0.mk hyW; clear hyW; refine (strings_Join.at _ y901 (HP.out) w.heap.size _ _ HW.out ?jn ?jl).mono ?_; (case jn => (have := HN901.out; omega)); (case jl => exact HJ.out); rintro e wj ⟨rfl, hb⟩; have n0_ := Aside0.mk (below_step (HB.out) hb); clear HB; have HB := n0_; clear n0_ hb))
              go_ret
              exact ⟨(show Ending.returned (.string (strings_Join.J y901)) = .returned (.string r) from by rw [HR.out, HYW.out]), HB.out⟩
            · skip
              have q4 : (a0_0 == 4) = false := beq_eq_false_iff_ne.mpr c4
              have q10 : (a0_0 == 10) = false := beq_eq_false_iff_ne.mpr c10
              have q5 : (a0_0 == 5) = false := beq_eq_false_iff_ne.mpr c5
              have q6 : (a0_0 == 6) = false := beq_eq_false_iff_ne.mpr c6
              have q7 : (a0_0 == 7) = false := beq_eq_false_iff_ne.mpr c7
              have HCS := Aside0.mk (show a0_0 ≠ 4 ∧ a0_0 ≠ 10 ∧ a0_0 ≠ 5 ∧ a0_0 ≠ 6 ∧ a0_0 ≠ 7 ∧ True from ⟨c4, c10, c5, c6, c7, trivial⟩)
              clear c4 c10 c5 c6 c7
              go_enter Tryd.func49, Tryd.ntmps49
              go_wp2_with (first | ((with_reducible refine gate_dst (N := 1) rfl ?_); refine box_event ?hg1 (N := 1) ?hd1 (cs := #[.int .i64 a0_0, .int .i64 a0_1, .int .i64 a0_2, .int .i64 a0_3, .int .i64 a0_4, .string a0_5]) (t := 27) ?hr1 ?_; (case hd1 => rfl); (case hg1 => rfl); (case hr1 => first | (go_simp; done) | (go_simp; rfl)); intro gx hg w1 hbox hb; have n0_ := Aside0.mk (below_step (HB.out) hb); have n1_ := Aside0.mk (hbox); have n2_ := Aside0.mk ((by rw [hg]; exact below_size (HB.out) : w.heap.size ≤ gx)); clear HB; have HB := n0_; have BX := n1_; have GX := n2_; clear n0_ n1_ n2_; clear hb hbox hg; obtain ⟨h0_, h1_, h2_, h3_, h4_, h5_, f0_, f1_, f2_, f3_, f4_, f5_⟩ := impl_formatInstr.bx BX.out) | (go_at_call 10; (with_reducible refine (impl_OpName.calls a0_0 o _ AO.out ?tab10).mono ?_); (case tab10 => exact (HTAB.out).below (HB.out)); rintro e w2 ⟨rfl, hb⟩; have n0_ := Aside0.mk (blk_below BX.out hb); have n1_ := Aside0.mk (below_step (HB.out) hb); clear BX HB; have BX := n0_; have HB := n1_; clear n0_ n1_; clear hb; obtain ⟨h0_, h1_, h2_, h3_, h4_, h5_, f0_, f1_, f2_, f3_, f4_, f5_⟩ := impl_formatInstr.bx BX.out) | ((with_reducible refine gate_dst (N := 8) rfl ?_); refine Kd.R_lit Kd.string (w0 := w) w.heap.size 9 ?hg8 (N := 8) ?hd8 (xs := [o]) (inner := [.string o]) (ok := fun _ => True) (okp := fun _ => True) ?hr8 ?hp8 (fun _ hk => hk) trivial (HB.out) (below_size (HB.out)) (by simp) ?_; (case hd8 => rfl); (case hg8 => rfl); (case hr8 => first | (go_simp; done) | (go_simp; rfl)); (case hp8 => exact Kd.reps_scalar [o]); intro v8 w3 ho hb hg_ hnew_; obtain ⟨y8, hy8⟩ : ∃ y_, y_ = [o] := ⟨_, rfl⟩; rw [← hy8] at ho; have HY8 := Aside0.mk hy8; have HN8 := Aside0.mk (show y8.length ≤ 1 from by rw [hy8]; simp); obtain ⟨A8, c8, e8⟩ := Kd.R_slice ho; subst e8; have n0_ := Aside0.mk ((hg_.block gx (blk_lt BX.out) (by simp)).trans BX.out); have n1_ := Aside0.mk (hb); have n2_ := Aside0.mk (ho); clear BX HB; have BX := n0_; have HB := n1_; have HW := n2_; clear n0_ n1_ n2_; clear hb ho hg_ hnew_ hy8; obtain ⟨h0_, h1_, h2_, h3_, h4_, h5_, f0_, f1_, f2_, f3_, f4_, f5_⟩ := impl_formatInstr.bx BX.out) | ((with_reducible refine gate_dst (N := 3) rfl ?_); refine box_event ?hg3 (N := 3) ?hd3 (cs := #[.slice none 0 0]) (t := 62) ?hr3 ?_; (case hd3 => rfl); (case hg3 => rfl); (case hr3 => first | (go_simp; done) | (go_simp; rfl)); intro gW hg w4 hbox hb; have NE := Aside0.mk (show gx ≠ gW from by rw [hg]; exact Nat.ne_of_lt (blk_lt BX.out)); have GW := Aside0.mk (show w.heap.size ≤ gW from by rw [hg]; exact below_size (HB.out)); have n0_ := Aside0.mk (blk_below BX.out hb); have n1_ := Aside0.mk (Kd.R_below HW.out hb); have n2_ := Aside0.mk (below_step (HB.out) hb); have n3_ := Aside0.mk (hbox); clear BX HW HB; have BX := n0_; have HW := n1_; have HB := n2_; have BW := n3_; clear n0_ n1_ n2_ n3_; clear hb hbox hg; have hw_w4 : w4.cell? ⟨gW, 0, none⟩ = some (Value.slice none 0 0) := (blk_cell BW.out 0).trans rfl; have hwf_w4 := blk_frozen BW.out 0; obtain ⟨h0_, h1_, h2_, h3_, h4_, h5_, f0_, f1_, f2_, f3_, f4_, f5_⟩ := impl_formatInstr.bx BX.out) | ((with_reducible refine gate_store (t := 62) (p := 3) rfl ?_); refine store_event (t := 62) (p := 3) (v := ?vo3) (w1 := (w4.setCell ⟨gW, 0, none⟩ (.slice A8 y8.length c8))) ?hgs3 ?hos3 ?hns3 ?hrs3 ?_; (case hos3 => rfl); (case hgs3 => rfl); (case hns3 => rfl); (case hrs3 => first | (go_simp; done) | (go_simp; rfl)); intro ws3 hw; have n0_ := Aside0.mk (show Kd.R Kd.string 9 ws3 w.heap.size (fun _ => True) (.slice A8 y8.length c8) y8 from by rw [hw]; exact Kd.R_set HW.out BW.out (by decide) 0 _); have n1_ := Aside0.mk (show ws3.heap[gx]? = some (.cells #[.int .i64 a0_0, .int .i64 a0_1, .int .i64 a0_2, .int .i64 a0_3, .int .i64 a0_4, .string a0_5] 27 (0, 0)) from by rw [hw]; exact (Below.heap_setCell w4 ⟨gW, 0, none⟩ _ gx NE.out).trans BX.out); have n2_ := Aside0.mk (show ws3.heap[gW]? = some (.cells #[.slice A8 y8.length c8] 62 (0, 0)) from by rw [hw]; exact blk_put BW.out 0 _ rfl); have n3_ := Aside0.mk (show Below w.heap.size w ws3 from by rw [hw]; exact below_set HB.out GW.out); clear HW BX BW HB; have HW := n0_; have BX := n1_; have BW := n2_; have HB := n3_; clear n0_ n1_ n2_ n3_; clear hw; obtain ⟨h0_, h1_, h2_, h3_, h4_, h5_, f0_, f1_, f2_, f3_, f4_, f5_⟩ := impl_formatInstr.bx BX.out; have hw_ws3 : ws3.cell? ⟨gW, 0, none⟩ = some (Value.slice A8 y8.length c8) := (blk_cell BW.out 0).trans rfl; have hwf_ws3 := blk_frozen BW.out 0) | ((with_reducible refine gate_dst (N := 17) rfl ?_); refine Kd.R_lit (Kd.int .i64) _ 3 ?hg17 (N := 17) ?hd17 (xs := [a0_1, a0_2]) (inner := [.int .i64 a0_1, .int .i64 a0_2]) (ok := fun _ => True) (okp := fun _ => True) ?hr17 ?hp17 (fun _ hk => hk) trivial (Below.refl _ _) (Nat.le_refl _) (by simp) ?_; (case hd17 => rfl); (case hg17 => rfl); (case hr17 => first | (go_simp; done) | (go_simp; rfl)); (case hp17 => exact Kd.reps_scalar [a0_1, a0_2]); intro v17 wl17 ho hb hg_ hnew_; obtain ⟨A17, c17, e17, hcl, hC⟩ := impl_formatInstr.lit ho (blk_lt BW.out) (Kd.R_lt HW.out); subst e17; have HC17 := Aside0.mk hC; have HCL17 := Aside0.mk hcl; clear hC hcl; have n0_ := Aside0.mk (blk_below BX.out hb); have n1_ := Aside0.mk (blk_below BW.out hb); have n2_ := Aside0.mk (Kd.R_below HW.out hb); have n3_ := Aside0.mk (below_step (HB.out) hb); clear BX BW HW HB; have BX := n0_; have BW := n1_; have HW := n2_; have HB := n3_; clear n0_ n1_ n2_ n3_; clear hb ho hg_ hnew_; obtain ⟨h0_, h1_, h2_, h3_, h4_, h5_, f0_, f1_, f2_, f3_, f4_, f5_⟩ := impl_formatInstr.bx BX.out; have hw_wl17 : wl17.cell? ⟨gW, 0, none⟩ = some (Value.slice A8 y8.length c8) := (blk_cell BW.out 0).trans rfl; have hwf_wl17 := blk_frozen BW.out 0) | (go_at_call 74; refine (impl_formatInstr_1.at gW (.slice A8 y8.length c8) y8 A17 c17 [a0_1, a0_2] w _ (HB.out) BW.out GW.out HW.out HC17.out HCL17.out ?fit900 ?len900 HTAB.out).mono ?_; (case fit900 => intro x hx; simp only [List.mem_cons, List.not_mem_nil, or_false] at hx; rcases hx with rfl | rfl <;> exact HF.out _ (by simp)); (case len900 => (have := HN8.out; simp only [List.length_cons, List.length_nil]; omega)); rintro e wf900 ⟨rfl, v900, hbx, hr, hb, hk⟩; obtain ⟨y900, hy⟩ : ∃ y_, y_ = y8 ++ ([a0_1, a0_2]).map impl_formatInstr_1.S := ⟨_, rfl⟩; rw [← hy] at hr; have HY900 := Aside0.mk hy; have HN900 := Aside0.mk (show y900.length ≤ 5 from by have := HN8.out; rw [hy, List.length_append, List.length_map]; simp only [List.length_cons, List.length_nil]; omega); obtain ⟨A900, c900, e900⟩ := Kd.R_slice hr; subst e900; have hne_ := Kd.R_ne HW.out BX.out (by decide); have n0_ := Aside0.mk (blk_kept BX.out hk (fun he => he.elim NE.out (fun h => hne_ h.symm))); have n1_ := Aside0.mk (hbx); have n2_ := Aside0.mk (hr); have n3_ := Aside0.mk (hb); clear BX BW HW HB; have BX := n0_; have BW := n1_; have HW := n2_; have HB := n3_; clear n0_ n1_ n2_ n3_; clear hbx hr hb hk hne_ hy; obtain ⟨h0_, h1_, h2_, h3_, h4_, h5_, f0_, f1_, f2_, f3_, f4_, f5_⟩ := impl_formatInstr.bx BX.out; have hw_wf900 : wf900.cell? ⟨gW, 0, none⟩ = some (Value.slice A900 y900.length c900) := (blk_cell BW.out 0).trans rfl; have hwf_wf900 := blk_frozen BW.out 0) | (go_at_call 76; have hyW : y900 = impl_formatInstr.W o a0_0 a0_1 a0_2 a0_3 a0_4 a0_5 := (by have HCT := HCS.out; unfold impl_formatInstr.W; rw [if_neg (by omega), if_neg (by omega), if_neg (by omega), if_neg (by omega)]; rw [HY900.out, HY8.out]); have HP := Aside0.mk (show 0 < y900.length from by rw [HY900.out, HY8.out]; simp only [List.length_append, List.length_cons, List.length_nil]; omega); have HJ := Aside0.mk (show (Go.Lib.join (y900.map (·.data.toList)) [32]).length ≤ 140737488355328 from by rw [hyW]; exact HJW.out); have HYW := Aside0.mk hyW; clear hyW; refine (strings_Join.at _ y900 (HP.out) w.heap.size _ _ HW.out ?jn ?jl).mono ?_; (case jn => (have := HN900.out; omega)); (case jl => exact HJ.out); rintro e wj ⟨rfl, hb⟩; have n0_ := Aside0.mk (below_step (HB.out) hb); clear HB; have HB := n0_; clear n0_ hb))
              go_ret
              exact ⟨(show Ending.returned (.string (strings_Join.J y900)) = .returned (.string r) from by rw [HR.out, HYW.out]), HB.out⟩
  · rw [if_neg c] at h
    exact absurd h (by simp)
/-! ### strings_Builder_WriteString: function 58 (by hand) -/
def Tryd.Bld (w0 : World) (b : Nat) (t : ByteArray) (w : World) : Prop := Go.Lib.IsBuilderF 78 5 w0.heap.size b (Go.Lib.byteCells t.data.toList) w
theorem Tryd.Bld.kept {w0 w W : World} {b : Nat} {t : ByteArray} (h : Tryd.Bld w0 b t w) (hk : ∀ k o, w.heap[k]? = some o → (k = b ∨ ∃ c fz, o = .cells c 5 fz) → W.heap[k]? = some o) : Tryd.Bld w0 b t W := by
  have go : ∀ p, Go.Lib.BuilderAtF 78 5 w0.heap.size b p (Go.Lib.byteCells t.data.toList) w → Go.Lib.BuilderAtF 78 5 w0.heap.size b p (Go.Lib.byteCells t.data.toList) W := by
    rintro p ⟨hB, v, hb, ⟨hl, ho⟩, hn⟩
    refine ⟨hB, v, hk b _ hb (.inl rfl), ⟨hl, ?_⟩, hn⟩
    rcases ho with ho | ⟨g, cap, cur, fz, hv, hbg, hg, rest⟩
    · exact .inl ho
    · exact .inr ⟨g, cap, cur, fz, hv, hbg, hk g _ hg (.inr ⟨cur, fz, rfl⟩), rest⟩
  exact h.elim (fun x => .inl (go _ x)) (fun x => .inr (go _ x))
theorem Tryd.Bld.below {w0 w W : World} {b : Nat} {t : ByteArray} (h : Tryd.Bld w0 b t w) (hb : Below w.heap.size w W) : Tryd.Bld w0 b t W := h.kept fun k o hk _ => (hb.block k (blk_lt hk)).trans hk
theorem Tryd.Bld.lt {w0 w : World} {b : Nat} {t : ByteArray} (h : Tryd.Bld w0 b t w) : b < w.heap.size := h.elim (fun x => x.lt) (fun x => x.lt)
theorem Tryd.Bld.set {w0 w : World} {b g ty : Nat} {t : ByteArray} {cs : Array Value} (h : Tryd.Bld w0 b t w) (hg : w.heap[g]? = some (.cells cs ty (0, 0))) (hne : g ≠ b) (hty : ty ≠ 5) (j : Nat) (u : Value) : Tryd.Bld w0 b t (w.setCell ⟨g, j, none⟩ u) := h.kept fun k o hk ho => by
  refine (Below.heap_setCell w ⟨g, j, none⟩ u k ?_).trans hk
  rintro rfl
  rcases ho with ho | ⟨c, fz, rfl⟩
  · exact hne ho
  · rw [hg] at hk
    injection hk with hk
    injection hk with _ hk _
    exact hty hk
theorem Tryd.blk_others {w W : World} {b g ty : Nat} {cs : Array Value} (hg : w.heap[g]? = some (.cells cs ty (0, 0))) (hne : g ≠ b) (hty : ty ≠ 5) (hk : Go.Lib.OthersKept 5 (some b) w W) : W.heap[g]? = some (.cells cs ty (0, 0)) :=
  hk g _ hg (by simpa using hne) (fun c fz h => by injection h with _ h _; exact hty h)
theorem Tryd.Bld.fresh {w0 w : World} {b : Nat} (hb : w.heap[b]? = some (.cells #[.pointer none, .slice none 0 0] 78 (0, 0))) (hg : w0.heap.size ≤ b) : Tryd.Bld w0 b ⟨#[]⟩ w := .inl ⟨hg, .slice none 0 0, hb, Go.World.ownsRowF_nil _ _ _ _, by simp [Value.ownBlock]⟩
theorem Tryd.bx2 {w : World} {g ty : Nat} {c0 c1 : Value} (h : w.heap[g]? = some (.cells #[c0, c1] ty (0, 0))) : w.cell? ⟨g, 0, none⟩ = some c0 ∧ w.cell? ⟨g, 1, none⟩ = some c1 ∧ w.frozen? ⟨g, 0, none⟩ = false ∧ w.frozen? ⟨g, 1, none⟩ = false := ⟨(blk_cell h 0).trans rfl, (blk_cell h 1).trans rfl, blk_frozen h 0, blk_frozen h 1⟩
theorem Tryd.bx6 {w : World} {g ty : Nat} {c0 c1 c2 c3 c4 c5 : Value} (h : w.heap[g]? = some (.cells #[c0, c1, c2, c3, c4, c5] ty (0, 0))) : w.cell? ⟨g, 0, none⟩ = some c0 ∧ w.cell? ⟨g, 1, none⟩ = some c1 ∧ w.cell? ⟨g, 2, none⟩ = some c2 ∧ w.cell? ⟨g, 3, none⟩ = some c3 ∧ w.cell? ⟨g, 4, none⟩ = some c4 ∧ w.cell? ⟨g, 5, none⟩ = some c5 ∧ w.frozen? ⟨g, 0, none⟩ = false ∧ w.frozen? ⟨g, 1, none⟩ = false ∧ w.frozen? ⟨g, 2, none⟩ = false ∧ w.frozen? ⟨g, 3, none⟩ = false ∧ w.frozen? ⟨g, 4, none⟩ = false ∧ w.frozen? ⟨g, 5, none⟩ = false := ⟨(blk_cell h 0).trans rfl, (blk_cell h 1).trans rfl, (blk_cell h 2).trans rfl, (blk_cell h 3).trans rfl, (blk_cell h 4).trans rfl, (blk_cell h 5).trans rfl, blk_frozen h 0, blk_frozen h 1, blk_frozen h 2, blk_frozen h 3, blk_frozen h 4, blk_frozen h 5⟩
theorem Tryd.writeString (b : Nat) (t s : ByteArray) (w0 w : World) (h : Tryd.Bld w0 b t w) (hl : t.size + s.size ≤ 140737488355328) (hB : Below w0.heap.size w0 w) :
    Calls Tryd.prog 58 #[.pointer (some ⟨b, 0, none⟩), .string s] w fun e w' => (∃ v, e = .returned v) ∧ Tryd.Bld w0 b (t ++ s) w' ∧ Below w0.heap.size w0 w' ∧ Go.Lib.OthersKept 5 (some b) w w' := by
  have hc : Calls Tryd.prog 58 #[.pointer (some ⟨b, 0, none⟩), .string s] w _ := Go.Proofs.Any.Builder_WriteString_k (ρ := Tryd.lay156_ren) { Tryd.lay156 with } Tryd.ext156 w0.heap.size b (Go.Lib.byteCells t.data.toList) s w h (by rw [Go.Lib.byteCells_length]; exact hl) hB.size
  refine hc.mono ?_
  rintro e w' ⟨rfl, ha, hb, hk⟩
  have he : Go.Lib.byteCells t.data.toList ++ Go.Lib.strCells s = Go.Lib.byteCells (t ++ s).data.toList := by
    unfold Go.Lib.byteCells Go.Lib.strCells
    rw [← List.map_append]
    simp
  rw [he] at ha
  exact ⟨⟨_, rfl⟩, .inr ha, hB.trans hb, hk⟩
/-! ### strings_Builder_String: function 59 (by hand) -/
theorem Tryd.builderString (b : Nat) (t : ByteArray) (w0 w : World) (h : Tryd.Bld w0 b t w) (hB : Below w0.heap.size w0 w) :
    Calls Tryd.prog 59 #[.pointer (some ⟨b, 0, none⟩)] w fun e w' => e = .returned (.string t) ∧ Below w0.heap.size w0 w' := by
  have hc : Calls Tryd.prog 59 #[.pointer (some ⟨b, 0, none⟩)] w _ := Go.Proofs.Any.Builder_String_any_k (ρ := Tryd.lay156_ren) { Tryd.lay156 with } Tryd.ext156 w0.heap.size b t.data.toList w h hB.size
  refine hc.mono ?_
  rintro e w' ⟨rfl, ha, hb, hk⟩
  exact ⟨by simp, hB.trans hb⟩
/-! ### impl_formatScript: function 54 (by hand) -/
def impl_formatScript.l1 : List S27 → ByteArray → Option ByteArray
  | [], t => some t
  | x :: r, t => (impl_formatInstr.f x.f0 x.f1 x.f2 x.f3 x.f4 x.f5).bind fun s => if t.size + (s.size + 1) ≤ 140737488355328 then impl_formatScript.l1 r (t ++ (s ++ (⟨#[10]⟩ : ByteArray))) else none
def impl_formatScript.l0 : List S72 → ByteArray → Option ByteArray
  | [], t => some t
  | m :: r, t => if t.size + (8 + m.f0.size) ≤ 140737488355328 ∧ m.f1.length ≤ 1000000 then (impl_formatScript.l1 m.f1 (t ++ (((⟨#[109, 101, 116, 104, 111, 100, 32]⟩ : ByteArray) ++ m.f0) ++ (⟨#[10]⟩ : ByteArray)))).bind (impl_formatScript.l0 r) else none
def impl_formatScript.f (a0_0 : ByteArray) (l : List S72) : Option ByteArray := if 8 + a0_0.size ≤ 140737488355328 ∧ l.length ≤ 1000000 then impl_formatScript.l0 l ((⟨#[]⟩ : ByteArray) ++ (((⟨#[115, 99, 114, 105, 112, 116, 32]⟩ : ByteArray) ++ a0_0) ++ (⟨#[10]⟩ : ByteArray))) else none
set_option maxHeartbeats 8000000 in
set_option maxRecDepth 100000 in
theorem impl_formatScript.calls (a0_0 : ByteArray) (A0_1 : Option Addr) (c0_1 : Nat) (l0_1 : List (S72)) (r : ByteArray) (w : World) (hr0_1 : Kd.C k72 w A0_1 l0_1.length l0_1) (hc0_1 : l0_1.length ≤ c0_1) (h : impl_formatScript.f a0_0 l0_1 = some r) (htab : Go.Proofs.YtmipaoobkjppdaaDoor.TabFnExactFormatLibrary.Tabs w) :
    Calls Tryd.prog 54 #[.agg #[.string a0_0, .slice A0_1 l0_1.length c0_1]] w fun e w' => e = .returned (.string r) ∧ Below w.heap.size w w' := by
  have hu46 := Tryd.underlying46
  have hu72 := Tryd.underlying72
  have hu27 := Tryd.underlying27
  have z7 : (⟨#[115, 99, 114, 105, 112, 116, 32]⟩ : ByteArray).size = 7 := rfl
  have z7m : (⟨#[109, 101, 116, 104, 111, 100, 32]⟩ : ByteArray).size = 7 := rfl
  have z1 : (⟨#[10]⟩ : ByteArray).size = 1 := rfl
  have HR0 := Aside0.mk hr0_1
  have HC0 := Aside0.mk hc0_1
  have HTAB := Aside0.mk htab
  clear hr0_1 hc0_1 htab
  have HB := Aside0.mk (Below.refl w.heap.size w)
  unfold impl_formatScript.f at h
  by_cases c : 8 + a0_0.size ≤ 140737488355328 ∧ l0_1.length ≤ 1000000
  · rw [if_pos c] at h
    have HL := Aside0.mk c.2
    have S1 := Aside0.mk (show (⟨#[]⟩ : ByteArray).size + (((⟨#[115, 99, 114, 105, 112, 116, 32]⟩ : ByteArray) ++ a0_0) ++ (⟨#[10]⟩ : ByteArray)).size ≤ 140737488355328 from by
      have z0 : (⟨#[]⟩ : ByteArray).size = 0 := rfl
      simp only [ByteArray.size_append, z7, z1, z0]
      omega)
    have q1 : (9223372036854775807 < 7 + a0_0.size) = False := eq_false (by omega)
    have q2 : (9223372036854775807 < 7 + a0_0.size + 1) = False := eq_false (by omega)
    have HA := Aside0.mk h
    clear c h z7 z7m z1
    go_enter Tryd.func54, Tryd.ntmps54
    go_wp2_with (first | ((with_reducible refine gate_dst (N := 1) rfl ?_); refine box_event ?hg1 (N := 1) ?hd1 (cs := #[.string a0_0, .slice A0_1 l0_1.length c0_1]) (t := 46) ?hr1 ?_; (case hd1 => rfl); (case hg1 => rfl); (case hr1 => first | (go_simp; done) | (go_simp; rfl)); intro gx hg w1 hbox hb; have n0_ := Aside0.mk (below_step (HB.out) hb); have n1_ := Aside0.mk (hbox); clear HB; have HB := n0_; have BX := n1_; clear n0_ n1_; clear hb hbox hg; obtain ⟨h0_, h1_, h2_, h3_⟩ := Tryd.bx2 BX.out) | ((with_reducible refine gate_dst (N := 3) rfl ?_); refine box_event ?hg3 (N := 3) ?hd3 (cs := #[.pointer none, .slice none 0 0]) (t := 78) ?hr3 ?_; (case hd3 => rfl); (case hg3 => rfl); (case hr3 => first | (go_simp; done) | (go_simp; rfl)); intro gB hg w2 hbox hb; have NE := Aside0.mk (show gx ≠ gB from by rw [hg]; exact Nat.ne_of_lt (blk_lt BX.out)); have GB := Aside0.mk (show w.heap.size ≤ gB from by rw [hg]; exact below_size (HB.out)); have n0_ := Aside0.mk (blk_below BX.out hb); have n1_ := Aside0.mk (below_step (HB.out) hb); have n2_ := Aside0.mk (hbox); clear BX HB; have BX := n0_; have HB := n1_; have BW := n2_; clear n0_ n1_ n2_; clear hb hbox hg; obtain ⟨h0_, h1_, h2_, h3_⟩ := Tryd.bx2 BX.out; obtain ⟨h0_, h1_, h2_, h3_⟩ := Tryd.bx2 BW.out) | ((with_reducible refine gate_store (t := 78) (p := 3) rfl ?_); refine store_event (t := 78) (p := 3) (v := ?vo3) (w1 := ((w2.setCell ⟨gB, 0, none⟩ (.pointer none)).setCell ⟨gB, 1, none⟩ (.slice none 0 0))) ?hgs3 ?hos3 ?hns3 ?hrs3 ?_; (case hos3 => rfl); (case hgs3 => rfl); (case hns3 => rfl); (case hrs3 => first | (go_simp; done) | (go_simp; rfl)); intro w3 hw; have n0_ := Aside0.mk (show w3.heap[gx]? = some (.cells #[.string a0_0, .slice A0_1 l0_1.length c0_1] 46 (0, 0)) from by rw [hw]; exact (Below.heap_setCell _ ⟨gB, 1, none⟩ _ gx NE.out).trans ((Below.heap_setCell w2 ⟨gB, 0, none⟩ _ gx NE.out).trans BX.out)); have n1_ := Aside0.mk ((show Tryd.Bld w gB ⟨#[]⟩ w3 from by rw [hw]; exact Tryd.Bld.fresh (blk_put (blk_put BW.out 0 _ rfl) 1 _ rfl) GB.out)); have n2_ := Aside0.mk (show Below w.heap.size w w3 from by rw [hw]; exact below_set (below_set HB.out GB.out) GB.out); clear BX BW HB; have BX := n0_; have BW := n1_; have HB := n2_; clear n0_ n1_ n2_; clear hw; obtain ⟨h0_, h1_, h2_, h3_⟩ := Tryd.bx2 BX.out) | (go_at_call 58; refine (Tryd.writeString gB ⟨#[]⟩ (((⟨#[115, 99, 114, 105, 112, 116, 32]⟩ : ByteArray) ++ a0_0) ++ (⟨#[10]⟩ : ByteArray)) w _ BW.out ?szA (HB.out)).mono ?_; (case szA => exact S1.out); rintro e w4 ⟨⟨vA, rfl⟩, hbl, hb, hk⟩; have n0_ := Aside0.mk (hbl); have n1_ := Aside0.mk (hb); have n2_ := Aside0.mk (Tryd.blk_others BX.out NE.out (by decide) hk); clear BW HB BX; have BW := n0_; have HB := n1_; have BX := n2_; clear n0_ n1_ n2_; clear hbl hb hk; obtain ⟨h0_, h1_, h2_, h3_⟩ := Tryd.bx2 BX.out))
    go_loopg [5, 7, 17] l0_1.length (fun kq _ _ v17 w' => ∃ (kk : Nat) (t : ByteArray), v17 = .int .i64 (kk : Int) ∧ Aside0 (kk ≤ l0_1.length ∧ l0_1.length - kk ≤ kq) ∧ Aside0 (impl_formatScript.l0 (l0_1.drop kk) t = some r) ∧ Aside0 (Tryd.Bld w gB t w') ∧ Aside0 (Below w.heap.size w w'))
    case atStart => exact ⟨0, _, rfl, ⟨by omega, by omega⟩, HA, BW, HB⟩
    case round =>
      clear HA BW HB BX
      obtain ⟨kk, t, rfl, HK, HA, BW, HB⟩ := hrel
      by_cases hkl : kk < l0_1.length
      · obtain ⟨x, hx⟩ : ∃ x : Int, x = (kk : Int) := ⟨_, rfl⟩
        have x0 : 0 ≤ x := by omega
        have x1 : x < (l0_1.length : Int) := by omega
        have hel : rd_T72 l0_1 x = l0_1[kk] := by
          rw [hx]
          unfold rd_T72
          rw [Int.toNat_natCast, List.getD_eq_getElem?_getD, List.getElem?_eq_getElem hkl]
          rfl
        have H := HA.out
        clear HA
        rw [List.drop_eq_getElem_cons hkl, ← hel] at H
        simp only [impl_formatScript.l0] at H
        by_cases c : t.size + (8 + (rd_T72 l0_1 x).f0.size) ≤ 140737488355328 ∧ (rd_T72 l0_1 x).f1.length ≤ 1000000
        · rw [if_pos c] at H
          obtain ⟨t1, At, H⟩ := Option.bind_eq_some_iff.mp H
          have HN := Aside0.mk H
          have HI := Aside0.mk At
          have HL2 := Aside0.mk c.2
          have S2 := Aside0.mk (show t.size + (((⟨#[109, 101, 116, 104, 111, 100, 32]⟩ : ByteArray) ++ (rd_T72 l0_1 x).f0) ++ (⟨#[10]⟩ : ByteArray)).size ≤ 140737488355328 from by
            have z7m : (⟨#[109, 101, 116, 104, 111, 100, 32]⟩ : ByteArray).size = 7 := rfl
            have z1 : (⟨#[10]⟩ : ByteArray).size = 1 := rfl
            simp only [ByteArray.size_append, z7m, z1]
            omega)
          have q3 : (9223372036854775807 < 7 + (rd_T72 l0_1 x).f0.size) = False := eq_false (by omega)
          have q4 : (9223372036854775807 < 7 + (rd_T72 l0_1 x).f0.size + 1) = False := eq_false (by omega)
          clear At H c
          obtain ⟨ad, A1_, c1_, e0, hx0, hx1, hl1, hi1⟩ := at_T72 HR0.out x x0 x1
          cases e0
          replace hx0 := (HB.out.cell (World.block_lt_of_cell? w _ hx0)).trans hx0
          replace hx1 := (HB.out.cell (World.block_lt_of_cell? w _ hx1)).trans hx1
          have HR1 := Aside0.mk hi1
          have HC1 := Aside0.mk hl1
          clear hi1 hl1 hel
          have HX := Aside0.mk hx
          rw [← hx]
          have HKL := Aside0.mk hkl
          have x1b : decide (x < (l0_1.length : Int)) = true := decide_eq_true x1
          have x0b := eq_true x0
          have x1c := eq_true x1
          clear hx hkl x0 x1
          go_wp2_with (first | ((with_reducible refine gate_dst (N := 5) rfl ?_); refine box_event ?hg5 (N := 5) ?hd5 (cs := #[Value.string (⟨#[]⟩ : ByteArray), Value.slice none 0 0]) (t := 72) ?hr5 ?_; (case hd5 => rfl); (case hg5 => rfl); (case hr5 => first | (go_simp; done) | (go_simp; rfl)); intro gm hg w5 hbox hb; have NM := Aside0.mk (show gm ≠ gB from by rw [hg]; exact Nat.ne_of_gt (Tryd.Bld.lt BW.out)); have GE5 := Aside0.mk (show w.heap.size ≤ gm from by rw [hg]; exact below_size (HB.out)); have n0_ := Aside0.mk (Tryd.Bld.below BW.out hb); have n1_ := Aside0.mk (below_step (HB.out) hb); have n2_ := Aside0.mk (hbox); clear BW HB; have BW := n0_; have HB := n1_; have Bgm := n2_; clear n0_ n1_ n2_; clear hb hbox hg; obtain ⟨h0_, h1_, h2_, h3_⟩ := Tryd.bx2 Bgm.out) | ((with_reducible refine gate_store (t := 72) (p := 5) rfl ?_); refine store_event (t := 72) (p := 5) (v := ?vo5) (w1 := ((w5.setCell ⟨gm, 0, none⟩ (Value.string (rd_T72 l0_1 x).f0)).setCell ⟨gm, 1, none⟩ (Value.slice A1_ (rd_T72 l0_1 x).f1.length c1_))) ?hgs5 ?hos5 ?hns5 ?hrs5 ?_; (case hos5 => rfl); (case hgs5 => rfl); (case hns5 => rfl); (case hrs5 => first | (go_simp; done) | (go_simp; rfl)); intro w6 hw; have n0_ := Aside0.mk (show Tryd.Bld w gB t w6 from by rw [hw]; exact (Tryd.Bld.set (Tryd.Bld.set BW.out Bgm.out NM.out (by decide) 0 _) (blk_put Bgm.out 0 _ rfl) NM.out (by decide) 1 _)); have n1_ := Aside0.mk (show Below w.heap.size w w6 from by rw [hw]; exact (below_set (below_set HB.out GE5.out) GE5.out)); have n2_ := Aside0.mk (show w6.heap[gm]? = some (.cells #[Value.string (rd_T72 l0_1 x).f0, Value.slice A1_ (rd_T72 l0_1 x).f1.length c1_] 72 (0, 0)) from by rw [hw]; exact (blk_put (blk_put Bgm.out 0 _ rfl) 1 _ rfl)); clear BW HB Bgm; have BW := n0_; have HB := n1_; have Bgm := n2_; clear n0_ n1_ n2_; clear hw; obtain ⟨h0_, h1_, h2_, h3_⟩ := Tryd.bx2 Bgm.out) | (go_at_call 58; refine (Tryd.writeString gB t (((⟨#[109, 101, 116, 104, 111, 100, 32]⟩ : ByteArray) ++ (rd_T72 l0_1 x).f0) ++ (⟨#[10]⟩ : ByteArray)) w _ BW.out ?szB (HB.out)).mono ?_; (case szB => exact S2.out); rintro e w7 ⟨⟨vB, rfl⟩, hbl, hb, hk⟩; have n0_ := Aside0.mk (hbl); have n1_ := Aside0.mk (hb); have n2_ := Aside0.mk (Tryd.blk_others Bgm.out NM.out (by decide) hk); clear BW HB Bgm; have BW := n0_; have HB := n1_; have Bgm := n2_; clear n0_ n1_ n2_; clear hbl hb hk; obtain ⟨h0_, h1_, h2_, h3_⟩ := Tryd.bx2 Bgm.out))
          obtain ⟨gko, hgko⟩ : ∃ q : Nat, q = gk := ⟨_, rfl⟩
          have HGK := Aside0.mk hgko
          clear hgko
          go_loopg [7, 29] (rd_T72 l0_1 x).f1.length (fun kq _ v29 w' => ∃ (jj : Nat) (t2 : ByteArray), v29 = .int .i64 (jj : Int) ∧ Aside0 (jj ≤ (rd_T72 l0_1 x).f1.length ∧ (rd_T72 l0_1 x).f1.length - jj ≤ kq) ∧ Aside0 (impl_formatScript.l1 ((rd_T72 l0_1 x).f1.drop jj) t2 = some t1) ∧ Aside0 (Tryd.Bld w gB t2 w') ∧ Aside0 (Below w.heap.size w w'))
          case atStart => exact ⟨0, _, rfl, ⟨by omega, by omega⟩, HI, BW, HB⟩
          case round =>
            clear HI BW HB Bgm
            obtain ⟨jj, t2, rfl, HJ, HI, BW, HB⟩ := hrel
            by_cases hjl : jj < (rd_T72 l0_1 x).f1.length
            · obtain ⟨y, hy⟩ : ∃ y : Int, y = (jj : Int) := ⟨_, rfl⟩
              have y0 : 0 ≤ y := by omega
              have y1 : y < ((rd_T72 l0_1 x).f1.length : Int) := by omega
              have hey : (rd_T27 (rd_T72 l0_1 x).f1 y) = (rd_T72 l0_1 x).f1[jj] := by
                rw [hy]
                unfold rd_T27
                rw [Int.toNat_natCast, List.getD_eq_getElem?_getD, List.getElem?_eq_getElem hjl]
                rfl
              have H := HI.out
              clear HI
              rw [List.drop_eq_getElem_cons hjl, ← hey] at H
              simp only [impl_formatScript.l1] at H
              obtain ⟨s, At, H⟩ := Option.bind_eq_some_iff.mp H
              have AF := Aside0.mk At
              clear At hey
              by_cases c : t2.size + (s.size + 1) ≤ 140737488355328
              · rw [if_pos c] at H
                have HI := Aside0.mk H
                have S3 := Aside0.mk (show t2.size + (s ++ (⟨#[10]⟩ : ByteArray)).size ≤ 140737488355328 from by
                  have z1 : (⟨#[10]⟩ : ByteArray).size = 1 := rfl
                  simp only [ByteArray.size_append, z1]
                  omega)
                have q5 : (9223372036854775807 < s.size + 1) = False := eq_false (by omega)
                clear H c
                obtain ⟨ay, e0, hy0, hy1, hy2, hy3, hy4, hy5⟩ := at_T27 HR1.out y y0 y1
                cases e0
                replace hy0 := (HB.out.cell (World.block_lt_of_cell? w _ hy0)).trans hy0
                replace hy1 := (HB.out.cell (World.block_lt_of_cell? w _ hy1)).trans hy1
                replace hy2 := (HB.out.cell (World.block_lt_of_cell? w _ hy2)).trans hy2
                replace hy3 := (HB.out.cell (World.block_lt_of_cell? w _ hy3)).trans hy3
                replace hy4 := (HB.out.cell (World.block_lt_of_cell? w _ hy4)).trans hy4
                replace hy5 := (HB.out.cell (World.block_lt_of_cell? w _ hy5)).trans hy5
                have HY := Aside0.mk hy
                rw [← hy]
                have HJL := Aside0.mk hjl
                have y1b : decide (y < ((rd_T72 l0_1 x).f1.length : Int)) = true := decide_eq_true y1
                have y0b := eq_true y0
                have y1c := eq_true y1
                clear hy hjl y0 y1
                go_wp2_with (first | ((with_reducible refine gate_dst (N := 7) rfl ?_); refine box_event ?hg7 (N := 7) ?hd7 (cs := #[Value.int .i64 0, Value.int .i64 0, Value.int .i64 0, Value.int .i64 0, Value.int .i64 0, Value.string (⟨#[]⟩ : ByteArray)]) (t := 27) ?hr7 ?_; (case hd7 => rfl); (case hg7 => rfl); (case hr7 => first | (go_simp; done) | (go_simp; rfl)); intro gy hg w8 hbox hb; have NY := Aside0.mk (show gy ≠ gB from by rw [hg]; exact Nat.ne_of_gt (Tryd.Bld.lt BW.out)); have GE7 := Aside0.mk (show w.heap.size ≤ gy from by rw [hg]; exact below_size (HB.out)); have n0_ := Aside0.mk (Tryd.Bld.below BW.out hb); have n1_ := Aside0.mk (below_step (HB.out) hb); have n2_ := Aside0.mk (hbox); clear BW HB; have BW := n0_; have HB := n1_; have Bgy := n2_; clear n0_ n1_ n2_; clear hb hbox hg; obtain ⟨h0_, h1_, h2_, h3_, h4_, h5_, h6_, h7_, h8_, h9_, h10_, h11_⟩ := Tryd.bx6 Bgy.out) | ((with_reducible refine gate_store (t := 27) (p := 7) rfl ?_); refine store_event (t := 27) (p := 7) (v := ?vo7) (w1 := ((((((w8.setCell ⟨gy, 0, none⟩ (Value.int .i64 (rd_T27 (rd_T72 l0_1 x).f1 y).f0)).setCell ⟨gy, 1, none⟩ (Value.int .i64 (rd_T27 (rd_T72 l0_1 x).f1 y).f1)).setCell ⟨gy, 2, none⟩ (Value.int .i64 (rd_T27 (rd_T72 l0_1 x).f1 y).f2)).setCell ⟨gy, 3, none⟩ (Value.int .i64 (rd_T27 (rd_T72 l0_1 x).f1 y).f3)).setCell ⟨gy, 4, none⟩ (Value.int .i64 (rd_T27 (rd_T72 l0_1 x).f1 y).f4)).setCell ⟨gy, 5, none⟩ (Value.string (rd_T27 (rd_T72 l0_1 x).f1 y).f5))) ?hgs7 ?hos7 ?hns7 ?hrs7 ?_; (case hos7 => rfl); (case hgs7 => rfl); (case hns7 => rfl); (case hrs7 => first | (go_simp; done) | (go_simp; rfl)); intro w9 hw; have n0_ := Aside0.mk (show Tryd.Bld w gB t2 w9 from by rw [hw]; exact (Tryd.Bld.set (Tryd.Bld.set (Tryd.Bld.set (Tryd.Bld.set (Tryd.Bld.set (Tryd.Bld.set BW.out Bgy.out NY.out (by decide) 0 _) (blk_put Bgy.out 0 _ rfl) NY.out (by decide) 1 _) (blk_put (blk_put Bgy.out 0 _ rfl) 1 _ rfl) NY.out (by decide) 2 _) (blk_put (blk_put (blk_put Bgy.out 0 _ rfl) 1 _ rfl) 2 _ rfl) NY.out (by decide) 3 _) (blk_put (blk_put (blk_put (blk_put Bgy.out 0 _ rfl) 1 _ rfl) 2 _ rfl) 3 _ rfl) NY.out (by decide) 4 _) (blk_put (blk_put (blk_put (blk_put (blk_put Bgy.out 0 _ rfl) 1 _ rfl) 2 _ rfl) 3 _ rfl) 4 _ rfl) NY.out (by decide) 5 _)); have n1_ := Aside0.mk (show Below w.heap.size w w9 from by rw [hw]; exact (below_set (below_set (below_set (below_set (below_set (below_set HB.out GE7.out) GE7.out) GE7.out) GE7.out) GE7.out) GE7.out)); have n2_ := Aside0.mk (show w9.heap[gy]? = some (.cells #[Value.int .i64 (rd_T27 (rd_T72 l0_1 x).f1 y).f0, Value.int .i64 (rd_T27 (rd_T72 l0_1 x).f1 y).f1, Value.int .i64 (rd_T27 (rd_T72 l0_1 x).f1 y).f2, Value.int .i64 (rd_T27 (rd_T72 l0_1 x).f1 y).f3, Value.int .i64 (rd_T27 (rd_T72 l0_1 x).f1 y).f4, Value.string (rd_T27 (rd_T72 l0_1 x).f1 y).f5] 27 (0, 0)) from by rw [hw]; exact (blk_put (blk_put (blk_put (blk_put (blk_put (blk_put Bgy.out 0 _ rfl) 1 _ rfl) 2 _ rfl) 3 _ rfl) 4 _ rfl) 5 _ rfl)); clear BW HB Bgy; have BW := n0_; have HB := n1_; have Bgy := n2_; clear n0_ n1_ n2_; clear hw; obtain ⟨h0_, h1_, h2_, h3_, h4_, h5_, h6_, h7_, h8_, h9_, h10_, h11_⟩ := Tryd.bx6 Bgy.out) | (go_at_call 49; (with_reducible refine (impl_formatInstr.calls (rd_T27 (rd_T72 l0_1 x).f1 y).f0 (rd_T27 (rd_T72 l0_1 x).f1 y).f1 (rd_T27 (rd_T72 l0_1 x).f1 y).f2 (rd_T27 (rd_T72 l0_1 x).f1 y).f3 (rd_T27 (rd_T72 l0_1 x).f1 y).f4 (rd_T27 (rd_T72 l0_1 x).f1 y).f5 s _ AF.out ?tabF).mono ?_); (case tabF => exact (HTAB.out).below (HB.out)); rintro e w10 ⟨rfl, hb⟩; have n0_ := Aside0.mk (Tryd.Bld.below BW.out hb); have n1_ := Aside0.mk (below_step (HB.out) hb); clear BW HB; have BW := n0_; have HB := n1_; clear n0_ n1_; clear hb) | (go_at_call 58; refine (Tryd.writeString gB t2 (s ++ (⟨#[10]⟩ : ByteArray)) w _ BW.out ?szC (HB.out)).mono ?_; (case szC => exact S3.out); rintro e w11 ⟨⟨vC, rfl⟩, hbl, hb, hk⟩; have n0_ := Aside0.mk (hbl); have n1_ := Aside0.mk (hb); clear BW HB; have BW := n0_; have HB := n1_; clear n0_ n1_; clear hbl hb hk))
                have ew : wrap64 (y + 1) = ((jj + 1 : Nat) : Int) := by have h1 := HY.out; have h2 := HL2.out; have h3 := HJL.out; unfold wrap64; omega
                go_roundg (gk - 1)
                case measure => have h1 := HJ.out; have h2 := HJL.out; omega
                case rel => exact ⟨jj + 1, _, by rw [ew], ⟨by have h1 := HJ.out; have h2 := HJL.out; omega⟩, HI, BW, HB⟩
              · rw [if_neg c] at H
                exact absurd H (by simp)
            · have hj : jj = (rd_T72 l0_1 x).f1.length := by have := HJ.out.1; omega
              subst hj
              have H := HI.out
              rw [List.drop_length] at H
              obtain rfl := Option.some.inj (show some t2 = some t1 from H)
              clear H HI
              have y1b : decide (((rd_T72 l0_1 x).f1.length : Int) < ((rd_T72 l0_1 x).f1.length : Int)) = false := decide_eq_false (by omega)
              go_wp2
              have ew : wrap64 (x + 1) = ((kk + 1 : Nat) : Int) := by have h1 := HX.out; have h2 := HL.out; have h3 := HKL.out; unfold wrap64; omega
              go_roundg (gko - 1)
              case measure => have h1 := HK.out; have h2 := HKL.out; have h3 := HGK.out; omega
              case rel => exact ⟨kk + 1, _, by rw [ew], ⟨by have h1 := HK.out; have h2 := HKL.out; have h3 := HGK.out; omega⟩, HN, BW, HB⟩
        · rw [if_neg c] at H
          exact absurd H (by simp)
      · have hk : kk = l0_1.length := by have := HK.out.1; omega
        subst hk
        have H := HA.out
        rw [List.drop_length] at H
        obtain rfl := Option.some.inj (show some t = some r from H)
        clear H HA
        have x1b : decide ((l0_1.length : Int) < (l0_1.length : Int)) = false := decide_eq_false (by omega)
        go_wp2_with (first | (go_at_call 59; refine (Tryd.builderString gB t w _ BW.out (HB.out)).mono ?_; rintro e w12 ⟨rfl, hb⟩; have n0_ := Aside0.mk (hb); clear HB; have HB := n0_; clear n0_; clear hb))
        go_ret
        exact ⟨by first | rfl | (simp; done), HB.out⟩
  · rw [if_neg c] at h
    exact absurd h (by simp)
/-! ### impl_isName: function 73 -/
def impl_isName.l0 : Nat → ByteArray → Int → Int → Option (Bool)
  | 0, _, _, _ => none
  | k + 1, x0, x9, x10 => if x10 < x9 then (if 0 ≤ x10 then (if x10 < (x0.size : Int) then (if (bt x0 x10) < 97 then (some false) else (if (bt x0 x10) > 122 then (some false) else (impl_isName.l0 k x0 x9 (wrap64 (x10 + 1))))) else (none)) else (none)) else (some true)
def impl_isName.f (k : Nat) (a0 : ByteArray) : Option (Bool) := (impl_in.f (a0.size : Int) 1 6).bind fun t231 => (if t231 = true then (impl_isName.l0 k a0 (a0.size : Int) 0) else (some false))
theorem impl_isName.mono_l : ∀ k, (∀ y0 y1 y2, LeO (impl_isName.l0 k y0 y1 y2) (impl_isName.l0 (k + 1) y0 y1 y2))
  | 0 => fun _ _ _ r h => by simp [impl_isName.l0] at h
  | k + 1 => by
    have ih0 := impl_isName.mono_l k
    · intro y0 y1 y2
      unfold impl_isName.l0
      repeat' first
      | (with_reducible exact ih0 _ _ _)
      | (with_reducible exact LeO.refl _)
      | (with_reducible exact LeO.none _)
      | (with_reducible refine LeO.ite ?_ ?_)
      | (with_reducible refine LeO.bind ?_ (fun _ => ?_))
      | exact ih0 _ _ _
      | exact LeO.none _
      | refine LeO.ite ?_ ?_
      | refine LeO.bind ?_ (fun _ => ?_)
theorem impl_isName.mono : ∀ a0 k, LeO (impl_isName.f k a0) (impl_isName.f (k + 1) a0) := by
  intro a0 k
  have ih0 := impl_isName.mono_l k
  unfold impl_isName.f
  repeat' first
      | (with_reducible exact ih0 _ _ _)
      | (with_reducible exact LeO.refl _)
      | (with_reducible exact LeO.none _)
      | (with_reducible refine LeO.ite ?_ ?_)
      | (with_reducible refine LeO.bind ?_ (fun _ => ?_))
      | exact ih0 _ _ _
      | exact LeO.none _
      | refine LeO.ite ?_ ?_
      | refine LeO.bind ?_ (fun _ => ?_)
set_option maxHeartbeats 8000000 in
set_option maxRecDepth 100000 in
theorem impl_isName.calls (k : Nat) (a0 : ByteArray) (r : Bool) (w : World) (h : impl_isName.f k a0 = some r) :
    Calls Tryd.prog 73 #[.string a0] w fun e w' => e = .returned (.bool r) ∧ Drawn0 w w' := by
  have H : ((impl_in.f (a0.size : Int) 1 6).bind fun t231 => (if t231 = true then (impl_isName.l0 k a0 (a0.size : Int) 0) else (some false))) = some r := h
  clear h
  replace H := Option.bind_eq_some_iff.mp H
  obtain ⟨t231, A20, H⟩ := H
  replace H : (if t231 = true then (impl_isName.l0 k a0 (a0.size : Int) 0) else (some false)) = some r := H
  have A2 := Aside0.mk A20
  clear A20
  by_cases c3 : t231 = true
  · subst c3
    have H1 : (impl_isName.l0 k a0 (a0.size : Int) 0) = some r := by rw [if_pos rfl] at H; exact H
    clear H
    have H := H1
    clear H1
    have H' := Aside0.mk H
    clear H
    go_enter Tryd.func73, Tryd.ntmps73
    go_wp2_with (first | ((with_reducible refine gate_callee (f := 39) rfl ?_); refine goesL_ (some 6) rfl rfl Tryd.func39 (by kernel_rfl) rfl #[.int .i64 (a0.size : Int), .int .i64 1, .int .i64 6] rfl (by (try simp only [List.map_toArray, List.map_cons, List.map_nil]); first | done | rfl | (simp only [List.length_drop, List.length_take]; rfl)) ?_; (with_reducible refine (impl_in.calls (a0.size : Int) 1 6 true _ A2.out).mono ?_); rintro e w' ⟨rfl, ⟨nd, rfl⟩⟩; refine ⟨_, rfl, ?_⟩))
    go_loopg [10] k (fun kq v10 w' => ∃ (x10_1 : Int), v10 = .int .i64 x10_1 ∧ Aside0 (impl_isName.l0 kq a0 (a0.size : Int) x10_1 = some r) ∧ Aside0 (kq ≤ k) ∧ Drawn0 w w')
    case atStart => exact ⟨(0), (by first | rfl | (simp; done) | (simp [*]; done)), H', ⟨Nat.le_refl _⟩, by repeat (first | exact Drawn0.refl _ | apply Drawn0.step)⟩
    case round =>
      clear H'
      try clear p2
      try clear c3
      obtain ⟨x10_1, rfl, HA, HK1, ⟨m1, rfl⟩⟩ := hrel
      cases gk with
      | zero => exact absurd HA.out (by simp [impl_isName.l0])
      | succ k1 =>
        have H := HA.out
        clear HA
        simp only [impl_isName.l0] at H
        by_cases c4 : x10_1 < (a0.size : Int)
        · rw [if_pos c4] at H
          have c4b0 : decide (x10_1 < (a0.size : Int)) = true := decide_eq_true c4
          clear c4
          by_cases c5 : 0 ≤ x10_1
          · rw [if_pos c5] at H
            have c5b0 : decide (0 ≤ x10_1) = true := decide_eq_true c5
            clear c5
            by_cases c6 : x10_1 < (a0.size : Int)
            · rw [if_pos c6] at H
              have c6b0 : decide (x10_1 < (a0.size : Int)) = true := decide_eq_true c6
              clear c6
              by_cases c8 : (bt a0 x10_1) < 97
              · rw [if_pos c8] at H
                have c8b0 : decide ((bt a0 x10_1) < 97) = true := decide_eq_true c8
                clear c8
                obtain rfl := Option.some.inj H
                have p7 : 0 ≤ (x10_1 : Int) := of_decide_eq_true (by first | (with_reducible assumption) | assumption)
                have q7 : x10_1 < (a0.size : Int) := of_decide_eq_true (by first | (with_reducible assumption) | assumption)
                have hx7 := bt_at a0 x10_1
                replace p7 := eq_true p7
                replace q7 := eq_true q7
                go_wp2
                go_ret
                exact ⟨by first | rfl | (simp; done) | (simp [*]; done), by repeat (first | exact Drawn0.refl _ | apply Drawn0.step)⟩
              · rw [if_neg c8] at H
                have c8b0 : decide ((bt a0 x10_1) < 97) = false := decide_eq_false c8
                clear c8
                by_cases c10 : (bt a0 x10_1) > 122
                · rw [if_pos c10] at H
                  have c10b0 : decide (122 < (bt a0 x10_1)) = true := decide_eq_true c10
                  clear c10
                  obtain rfl := Option.some.inj H
                  have p7 : 0 ≤ (x10_1 : Int) := of_decide_eq_true (by first | (with_reducible assumption) | assumption)
                  have q7 : x10_1 < (a0.size : Int) := of_decide_eq_true (by first | (with_reducible assumption) | assumption)
                  have hx7 := bt_at a0 x10_1
                  replace p7 := eq_true p7
                  replace q7 := eq_true q7
                  have p9 : 0 ≤ (x10_1 : Int) := of_decide_eq_true (by first | (with_reducible assumption) | assumption)
                  have q9 : x10_1 < (a0.size : Int) := of_decide_eq_true (by first | (with_reducible assumption) | assumption)
                  have hx9 := bt_at a0 x10_1
                  replace p9 := eq_true p9
                  replace q9 := eq_true q9
                  go_wp2
                  go_ret
                  exact ⟨by first | rfl | (simp; done) | (simp [*]; done), by repeat (first | exact Drawn0.refl _ | apply Drawn0.step)⟩
                · rw [if_neg c10] at H
                  have c10b0 : decide (122 < (bt a0 x10_1)) = false := decide_eq_false c10
                  clear c10
                  have H' := Aside0.mk H
                  clear H
                  have p7 : 0 ≤ (x10_1 : Int) := of_decide_eq_true (by first | (with_reducible assumption) | assumption)
                  have q7 : x10_1 < (a0.size : Int) := of_decide_eq_true (by first | (with_reducible assumption) | assumption)
                  have hx7 := bt_at a0 x10_1
                  replace p7 := eq_true p7
                  replace q7 := eq_true q7
                  have p9 : 0 ≤ (x10_1 : Int) := of_decide_eq_true (by first | (with_reducible assumption) | assumption)
                  have q9 : x10_1 < (a0.size : Int) := of_decide_eq_true (by first | (with_reducible assumption) | assumption)
                  have hx9 := bt_at a0 x10_1
                  replace p9 := eq_true p9
                  replace q9 := eq_true q9
                  go_wp2
                  go_roundg k1
                  case measure => have := HK1.out; omega
                  case rel => exact ⟨(wrap64 (x10_1 + 1)), (by first | rfl | (simp; done) | (simp [*]; done)), H', ⟨by have := HK1.out; omega⟩, by repeat (first | exact Drawn0.refl _ | apply Drawn0.step)⟩
            · rw [if_neg c6] at H
              exact absurd H (by simp)
          · rw [if_neg c5] at H
            exact absurd H (by simp)
        · rw [if_neg c4] at H
          have c4b0 : decide (x10_1 < (a0.size : Int)) = false := decide_eq_false c4
          clear c4
          obtain rfl := Option.some.inj H
          go_wp2
          go_ret
          exact ⟨by first | rfl | (simp; done) | (simp [*]; done), by repeat (first | exact Drawn0.refl _ | apply Drawn0.step)⟩
  · replace c3 := Bool.eq_false_iff.mpr c3
    subst c3
    have H1 : (some false) = some r := by rw [if_neg (show ¬ (false = true) by decide)] at H; exact H
    clear H
    have H := H1
    clear H1
    obtain rfl := Option.some.inj H
    go_enter Tryd.func73, Tryd.ntmps73
    go_wp2_with (first | ((with_reducible refine gate_callee (f := 39) rfl ?_); refine goesL_ (some 6) rfl rfl Tryd.func39 (by kernel_rfl) rfl #[.int .i64 (a0.size : Int), .int .i64 1, .int .i64 6] rfl (by (try simp only [List.map_toArray, List.map_cons, List.map_nil]); first | done | rfl | (simp only [List.length_drop, List.length_take]; rfl)) ?_; (with_reducible refine (impl_in.calls (a0.size : Int) 1 6 false _ A2.out).mono ?_); rintro e w' ⟨rfl, ⟨nd, rfl⟩⟩; refine ⟨_, rfl, ?_⟩))
    go_ret
    exact ⟨by first | rfl | (simp; done) | (simp [*]; done), by repeat (first | exact Drawn0.refl _ | apply Drawn0.step)⟩
/-! ### impl_isReg: function 44 -/
def impl_isReg.f (a0 : Int) : Option (Bool) := (impl_in.f a0 0 7).bind fun t232 => (some t232)
set_option maxHeartbeats 8000000 in
set_option maxRecDepth 100000 in
theorem impl_isReg.calls (a0 : Int) (r : Bool) (w : World) (h : impl_isReg.f a0 = some r) :
    Calls Tryd.prog 44 #[.int .i64 a0] w fun e w' => e = .returned (.bool r) ∧ Drawn0 w w' := by
  have H : ((impl_in.f a0 0 7).bind fun t232 => (some t232)) = some r := h
  clear h
  replace H := Option.bind_eq_some_iff.mp H
  obtain ⟨t232, A20, H⟩ := H
  replace H : (some t232) = some r := H
  have A2 := Aside0.mk A20
  clear A20
  obtain rfl := Option.some.inj H
  go_enter Tryd.func44, Tryd.ntmps44
  go_wp2_with (first | ((with_reducible refine gate_callee (f := 39) rfl ?_); refine goesL_ (some 4) rfl rfl Tryd.func39 (by kernel_rfl) rfl #[.int .i64 a0, .int .i64 0, .int .i64 7] rfl (by (try simp only [List.map_toArray, List.map_cons, List.map_nil]); first | done | rfl | (simp only [List.length_drop, List.length_take]; rfl)) ?_; (with_reducible refine (impl_in.calls a0 0 7 t232 _ A2.out).mono ?_); rintro e w' ⟨rfl, ⟨nd, rfl⟩⟩; refine ⟨_, rfl, ?_⟩))
  go_ret
  exact ⟨by first | rfl | (simp; done) | (simp [*]; done), by repeat (first | exact Drawn0.refl _ | apply Drawn0.step)⟩
/-! ### impl_pairOk: function 72 -/
def impl_pairOk.f (a0 : Int) (a1 : Int) : Option (Bool) := (impl_isReg.f a0).bind fun t233 => (if t233 = true then ((impl_isReg.f a1).bind fun t234 => (if t234 = true then (if a0 = (-1) then (some (a1 == (-1))) else (some true)) else (if a1 = (-1) then (if a0 = (-1) then (some (a1 == (-1))) else (some true)) else (some false)))) else (if a0 = (-1) then ((impl_isReg.f a1).bind fun t235 => (if t235 = true then (some (a1 == (-1))) else (if a1 = (-1) then (some (a1 == (-1))) else (some false)))) else (some false)))
set_option maxHeartbeats 8000000 in
set_option maxRecDepth 100000 in
theorem impl_pairOk.calls (a0 : Int) (a1 : Int) (r : Bool) (w : World) (h : impl_pairOk.f a0 a1 = some r) :
    Calls Tryd.prog 72 #[.int .i64 a0, .int .i64 a1] w fun e w' => e = .returned (.bool r) ∧ Drawn0 w w' := by
  have H : ((impl_isReg.f a0).bind fun t233 => (if t233 = true then ((impl_isReg.f a1).bind fun t234 => (if t234 = true then (if a0 = (-1) then (some (a1 == (-1))) else (some true)) else (if a1 = (-1) then (if a0 = (-1) then (some (a1 == (-1))) else (some true)) else (some false)))) else (if a0 = (-1) then ((impl_isReg.f a1).bind fun t235 => (if t235 = true then (some (a1 == (-1))) else (if a1 = (-1) then (some (a1 == (-1))) else (some false)))) else (some false)))) = some r := h
  clear h
  replace H := Option.bind_eq_some_iff.mp H
  obtain ⟨t233, A30, H⟩ := H
  replace H : (if t233 = true then ((impl_isReg.f a1).bind fun t234 => (if t234 = true then (if a0 = (-1) then (some (a1 == (-1))) else (some true)) else (if a1 = (-1) then (if a0 = (-1) then (some (a1 == (-1))) else (some true)) else (some false)))) else (if a0 = (-1) then ((impl_isReg.f a1).bind fun t235 => (if t235 = true then (some (a1 == (-1))) else (if a1 = (-1) then (some (a1 == (-1))) else (some false)))) else (some false))) = some r := H
  have A3 := Aside0.mk A30
  clear A30
  by_cases c4 : t233 = true
  · subst c4
    have H1 : ((impl_isReg.f a1).bind fun t234 => (if t234 = true then (if a0 = (-1) then (some (a1 == (-1))) else (some true)) else (if a1 = (-1) then (if a0 = (-1) then (some (a1 == (-1))) else (some true)) else (some false)))) = some r := by rw [if_pos rfl] at H; exact H
    clear H
    have H := H1
    clear H1
    replace H := Option.bind_eq_some_iff.mp H
    obtain ⟨t234, A50, H⟩ := H
    replace H : (if t234 = true then (if a0 = (-1) then (some (a1 == (-1))) else (some true)) else (if a1 = (-1) then (if a0 = (-1) then (some (a1 == (-1))) else (some true)) else (some false))) = some r := H
    have A5 := Aside0.mk A50
    clear A50
    by_cases c6 : t234 = true
    · subst c6
      have H1 : (if a0 = (-1) then (some (a1 == (-1))) else (some true)) = some r := by rw [if_pos rfl] at H; exact H
      clear H
      have H := H1
      clear H1
      by_cases c7 : a0 = (-1)
      · rw [if_pos c7] at H
        have c7b0 : (a0 == (-1)) = true := beq_iff_eq.mpr c7
        have c7b1 : (a0 != (-1)) = false := bne_eq_false_iff_eq.mpr c7
        clear c7
        obtain rfl := Option.some.inj H
        go_enter Tryd.func72, Tryd.ntmps72
        go_wp2_with (first | ((with_reducible refine gate_callee (f := 44) rfl ?_); refine goesL_ (some 6) rfl rfl Tryd.func44 (by kernel_rfl) rfl #[.int .i64 a0] rfl (by (try simp only [List.map_toArray, List.map_cons, List.map_nil]); first | done | rfl | (simp only [List.length_drop, List.length_take]; rfl)) ?_; (with_reducible refine (impl_isReg.calls a0 true _ A3.out).mono ?_); rintro e w' ⟨rfl, ⟨nd, rfl⟩⟩; refine ⟨_, rfl, ?_⟩) | (go_at_call 44; (with_reducible refine (impl_isReg.calls a1 true _ A5.out).mono ?_); rintro e w' ⟨rfl, ⟨nd, rfl⟩⟩))
        go_ret
        exact ⟨by first | rfl | (simp; done) | (simp [*]; done), by repeat (first | exact Drawn0.refl _ | apply Drawn0.step)⟩
      · rw [if_neg c7] at H
        have c7b0 : (a0 == (-1)) = false := beq_eq_false_iff_ne.mpr c7
        have c7b1 : (a0 != (-1)) = true := bne_iff_ne.mpr c7
        obtain rfl := Option.some.inj H
        go_enter Tryd.func72, Tryd.ntmps72
        go_wp2_with (first | ((with_reducible refine gate_callee (f := 44) rfl ?_); refine goesL_ (some 6) rfl rfl Tryd.func44 (by kernel_rfl) rfl #[.int .i64 a0] rfl (by (try simp only [List.map_toArray, List.map_cons, List.map_nil]); first | done | rfl | (simp only [List.length_drop, List.length_take]; rfl)) ?_; (with_reducible refine (impl_isReg.calls a0 true _ A3.out).mono ?_); rintro e w' ⟨rfl, ⟨nd, rfl⟩⟩; refine ⟨_, rfl, ?_⟩) | (go_at_call 44; (with_reducible refine (impl_isReg.calls a1 true _ A5.out).mono ?_); rintro e w' ⟨rfl, ⟨nd, rfl⟩⟩))
        go_ret
        exact ⟨by first | rfl | (simp; done) | (simp [*]; done), by repeat (first | exact Drawn0.refl _ | apply Drawn0.step)⟩
    · replace c6 := Bool.eq_false_iff.mpr c6
      subst c6
      have H1 : (if a1 = (-1) then (if a0 = (-1) then (some (a1 == (-1))) else (some true)) else (some false)) = some r := by rw [if_neg (show ¬ (false = true) by decide)] at H; exact H
      clear H
      have H := H1
      clear H1
      by_cases c8 : a1 = (-1)
      · rw [if_pos c8] at H
        have c8b0 : (a1 == (-1)) = true := beq_iff_eq.mpr c8
        have c8b1 : (a1 != (-1)) = false := bne_eq_false_iff_eq.mpr c8
        clear c8
        by_cases c9 : a0 = (-1)
        · rw [if_pos c9] at H
          have c9b0 : (a0 == (-1)) = true := beq_iff_eq.mpr c9
          have c9b1 : (a0 != (-1)) = false := bne_eq_false_iff_eq.mpr c9
          clear c9
          obtain rfl := Option.some.inj H
          go_enter Tryd.func72, Tryd.ntmps72
          go_wp2_with (first | ((with_reducible refine gate_callee (f := 44) rfl ?_); refine goesL_ (some 6) rfl rfl Tryd.func44 (by kernel_rfl) rfl #[.int .i64 a0] rfl (by (try simp only [List.map_toArray, List.map_cons, List.map_nil]); first | done | rfl | (simp only [List.length_drop, List.length_take]; rfl)) ?_; (with_reducible refine (impl_isReg.calls a0 true _ A3.out).mono ?_); rintro e w' ⟨rfl, ⟨nd, rfl⟩⟩; refine ⟨_, rfl, ?_⟩) | (go_at_call 44; (with_reducible refine (impl_isReg.calls a1 false _ A5.out).mono ?_); rintro e w' ⟨rfl, ⟨nd, rfl⟩⟩))
          go_ret
          exact ⟨by first | rfl | (simp; done) | (simp [*]; done), by repeat (first | exact Drawn0.refl _ | apply Drawn0.step)⟩
        · rw [if_neg c9] at H
          have c9b0 : (a0 == (-1)) = false := beq_eq_false_iff_ne.mpr c9
          have c9b1 : (a0 != (-1)) = true := bne_iff_ne.mpr c9
          obtain rfl := Option.some.inj H
          go_enter Tryd.func72, Tryd.ntmps72
          go_wp2_with (first | ((with_reducible refine gate_callee (f := 44) rfl ?_); refine goesL_ (some 6) rfl rfl Tryd.func44 (by kernel_rfl) rfl #[.int .i64 a0] rfl (by (try simp only [List.map_toArray, List.map_cons, List.map_nil]); first | done | rfl | (simp only [List.length_drop, List.length_take]; rfl)) ?_; (with_reducible refine (impl_isReg.calls a0 true _ A3.out).mono ?_); rintro e w' ⟨rfl, ⟨nd, rfl⟩⟩; refine ⟨_, rfl, ?_⟩) | (go_at_call 44; (with_reducible refine (impl_isReg.calls a1 false _ A5.out).mono ?_); rintro e w' ⟨rfl, ⟨nd, rfl⟩⟩))
          go_ret
          exact ⟨by first | rfl | (simp; done) | (simp [*]; done), by repeat (first | exact Drawn0.refl _ | apply Drawn0.step)⟩
      · rw [if_neg c8] at H
        have c8b0 : (a1 == (-1)) = false := beq_eq_false_iff_ne.mpr c8
        have c8b1 : (a1 != (-1)) = true := bne_iff_ne.mpr c8
        obtain rfl := Option.some.inj H
        go_enter Tryd.func72, Tryd.ntmps72
        go_wp2_with (first | ((with_reducible refine gate_callee (f := 44) rfl ?_); refine goesL_ (some 6) rfl rfl Tryd.func44 (by kernel_rfl) rfl #[.int .i64 a0] rfl (by (try simp only [List.map_toArray, List.map_cons, List.map_nil]); first | done | rfl | (simp only [List.length_drop, List.length_take]; rfl)) ?_; (with_reducible refine (impl_isReg.calls a0 true _ A3.out).mono ?_); rintro e w' ⟨rfl, ⟨nd, rfl⟩⟩; refine ⟨_, rfl, ?_⟩) | (go_at_call 44; (with_reducible refine (impl_isReg.calls a1 false _ A5.out).mono ?_); rintro e w' ⟨rfl, ⟨nd, rfl⟩⟩))
        go_ret
        exact ⟨by first | rfl | (simp; done) | (simp [*]; done), by repeat (first | exact Drawn0.refl _ | apply Drawn0.step)⟩
  · replace c4 := Bool.eq_false_iff.mpr c4
    subst c4
    have H1 : (if a0 = (-1) then ((impl_isReg.f a1).bind fun t235 => (if t235 = true then (some (a1 == (-1))) else (if a1 = (-1) then (some (a1 == (-1))) else (some false)))) else (some false)) = some r := by rw [if_neg (show ¬ (false = true) by decide)] at H; exact H
    clear H
    have H := H1
    clear H1
    by_cases c10 : a0 = (-1)
    · rw [if_pos c10] at H
      have c10b0 : (a0 == (-1)) = true := beq_iff_eq.mpr c10
      have c10b1 : (a0 != (-1)) = false := bne_eq_false_iff_eq.mpr c10
      clear c10
      replace H := Option.bind_eq_some_iff.mp H
      obtain ⟨t235, A110, H⟩ := H
      replace H : (if t235 = true then (some (a1 == (-1))) else (if a1 = (-1) then (some (a1 == (-1))) else (some false))) = some r := H
      have A11 := Aside0.mk A110
      clear A110
      by_cases c12 : t235 = true
      · subst c12
        have H1 : (some (a1 == (-1))) = some r := by rw [if_pos rfl] at H; exact H
        clear H
        have H := H1
        clear H1
        obtain rfl := Option.some.inj H
        go_enter Tryd.func72, Tryd.ntmps72
        go_wp2_with (first | ((with_reducible refine gate_callee (f := 44) rfl ?_); refine goesL_ (some 6) rfl rfl Tryd.func44 (by kernel_rfl) rfl #[.int .i64 a0] rfl (by (try simp only [List.map_toArray, List.map_cons, List.map_nil]); first | done | rfl | (simp only [List.length_drop, List.length_take]; rfl)) ?_; (with_reducible refine (impl_isReg.calls a0 false _ A3.out).mono ?_); rintro e w' ⟨rfl, ⟨nd, rfl⟩⟩; refine ⟨_, rfl, ?_⟩) | (go_at_call 44; (with_reducible refine (impl_isReg.calls a1 true _ A11.out).mono ?_); rintro e w' ⟨rfl, ⟨nd, rfl⟩⟩))
        go_ret
        exact ⟨by first | rfl | (simp; done) | (simp [*]; done), by repeat (first | exact Drawn0.refl _ | apply Drawn0.step)⟩
      · replace c12 := Bool.eq_false_iff.mpr c12
        subst c12
        have H1 : (if a1 = (-1) then (some (a1 == (-1))) else (some false)) = some r := by rw [if_neg (show ¬ (false = true) by decide)] at H; exact H
        clear H
        have H := H1
        clear H1
        by_cases c13 : a1 = (-1)
        · rw [if_pos c13] at H
          have c13b0 : (a1 == (-1)) = true := beq_iff_eq.mpr c13
          have c13b1 : (a1 != (-1)) = false := bne_eq_false_iff_eq.mpr c13
          clear c13
          obtain rfl := Option.some.inj H
          go_enter Tryd.func72, Tryd.ntmps72
          go_wp2_with (first | ((with_reducible refine gate_callee (f := 44) rfl ?_); refine goesL_ (some 6) rfl rfl Tryd.func44 (by kernel_rfl) rfl #[.int .i64 a0] rfl (by (try simp only [List.map_toArray, List.map_cons, List.map_nil]); first | done | rfl | (simp only [List.length_drop, List.length_take]; rfl)) ?_; (with_reducible refine (impl_isReg.calls a0 false _ A3.out).mono ?_); rintro e w' ⟨rfl, ⟨nd, rfl⟩⟩; refine ⟨_, rfl, ?_⟩) | (go_at_call 44; (with_reducible refine (impl_isReg.calls a1 false _ A11.out).mono ?_); rintro e w' ⟨rfl, ⟨nd, rfl⟩⟩))
          go_ret
          exact ⟨by first | rfl | (simp; done) | (simp [*]; done), by repeat (first | exact Drawn0.refl _ | apply Drawn0.step)⟩
        · rw [if_neg c13] at H
          have c13b0 : (a1 == (-1)) = false := beq_eq_false_iff_ne.mpr c13
          have c13b1 : (a1 != (-1)) = true := bne_iff_ne.mpr c13
          obtain rfl := Option.some.inj H
          go_enter Tryd.func72, Tryd.ntmps72
          go_wp2_with (first | ((with_reducible refine gate_callee (f := 44) rfl ?_); refine goesL_ (some 6) rfl rfl Tryd.func44 (by kernel_rfl) rfl #[.int .i64 a0] rfl (by (try simp only [List.map_toArray, List.map_cons, List.map_nil]); first | done | rfl | (simp only [List.length_drop, List.length_take]; rfl)) ?_; (with_reducible refine (impl_isReg.calls a0 false _ A3.out).mono ?_); rintro e w' ⟨rfl, ⟨nd, rfl⟩⟩; refine ⟨_, rfl, ?_⟩) | (go_at_call 44; (with_reducible refine (impl_isReg.calls a1 false _ A11.out).mono ?_); rintro e w' ⟨rfl, ⟨nd, rfl⟩⟩))
          go_ret
          exact ⟨by first | rfl | (simp; done) | (simp [*]; done), by repeat (first | exact Drawn0.refl _ | apply Drawn0.step)⟩
    · rw [if_neg c10] at H
      have c10b0 : (a0 == (-1)) = false := beq_eq_false_iff_ne.mpr c10
      have c10b1 : (a0 != (-1)) = true := bne_iff_ne.mpr c10
      obtain rfl := Option.some.inj H
      go_enter Tryd.func72, Tryd.ntmps72
      go_wp2_with (first | ((with_reducible refine gate_callee (f := 44) rfl ?_); refine goesL_ (some 6) rfl rfl Tryd.func44 (by kernel_rfl) rfl #[.int .i64 a0] rfl (by (try simp only [List.map_toArray, List.map_cons, List.map_nil]); first | done | rfl | (simp only [List.length_drop, List.length_take]; rfl)) ?_; (with_reducible refine (impl_isReg.calls a0 false _ A3.out).mono ?_); rintro e w' ⟨rfl, ⟨nd, rfl⟩⟩; refine ⟨_, rfl, ?_⟩))
      go_ret
      exact ⟨by first | rfl | (simp; done) | (simp [*]; done), by repeat (first | exact Drawn0.refl _ | apply Drawn0.step)⟩
end Go.Proofs.YtmipaoobkjppdaaDoor.QFnExactFormatLibrary
