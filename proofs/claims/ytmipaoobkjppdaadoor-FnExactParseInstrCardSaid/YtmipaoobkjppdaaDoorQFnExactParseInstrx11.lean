-- Written by a program of this session, after the kit's print, with contracts by hand.
import Derived.Test.YtmipaoobkjppdaaDoorQFnExactParseInstrx0
import Derived.Test.YtmipaoobkjppdaaDoorQFnExactParseInstrx7
import Derived.Test.YtmipaoobkjppdaaDoorQFnExactParseInstrx10
namespace Go.Proofs.YtmipaoobkjppdaaDoor.QFnExactParseInstr
open Go.RowKit Go.Proofs.YtmipaoobkjppdaaDoorW.PrintWords Go.Proofs.YtmipaoobkjppdaaDoorW.PrintLast Go.Proofs.YtmipaoobkjppdaaDoorW.PrintMore
attribute [local go_sem] max2_int min2_int max_two min_two max_three min_three max_four min_four   -- for this text's walks alone
set_option linter.unusedVariables false
set_option linter.unusedSimpArgs false

/-! ### impl_ParseInstr: function 36 (by hand) -/
def impl_ParseInstr.ptr (g : Nat) : Kd Nat := Kd.scalar (fun j => Value.pointer (some ⟨g, j, none⟩)) (fun _ => rfl)
def impl_ParseInstr.put (j : Nat) (n a b c d : Int) : Int × Int × Int × Int := if j = 1 then (n, b, c, d) else if j = 2 then (a, n, c, d) else if j = 3 then (a, b, n, d) else (a, b, c, n)
def impl_ParseInstr.l (fs : List Nat) : List ByteArray → Nat → Int → Int → Int → Int → ByteArray → Option (Int × Int × Int × Int × ByteArray)
  | [], _, a, b, c, d, nm => some (a, b, c, d, nm)
  | x :: r, kk, a, b, c, d, nm => match Go.Lib.atoiAll x.data.toList with
    | .ok n => if kk = fs.length then none else impl_ParseInstr.l fs r (kk + 1) (impl_ParseInstr.put (fs.getD kk 0) n a b c d).1 (impl_ParseInstr.put (fs.getD kk 0) n a b c d).2.1 (impl_ParseInstr.put (fs.getD kk 0) n a b c d).2.2.1 (impl_ParseInstr.put (fs.getD kk 0) n a b c d).2.2.2 nm
    | _ => if nm.toList = [] then impl_ParseInstr.l fs r kk a b c d x else none
def impl_ParseInstr.fs (op : Int) : List Nat := if op = 6 then [1, 2, 3, 4] else if op = 7 then [1, 3, 4] else [1, 2, 3]
def impl_ParseInstr.z (op : Int) : Int := if op = 6 then -1 else if op = 7 then -1 else 0
def impl_ParseInstr.e (k : Nat) (s : ByteArray) (op : Int) : Option (Int × Int × Int × Int × ByteArray) → Option (Int × Int × Int × Int × Int × ByteArray × Bool)
  | none => some (0, 0, 0, 0, 0, ⟨#[]⟩, false)
  | some (a, b, c, d, nm) => (impl_FormatInstr.f k op a b c d nm).bind fun t => if t.toList = s.toList then if s.toList = [] then some (0, 0, 0, 0, 0, ⟨#[]⟩, false) else some (op, a, b, c, d, nm, true) else some (0, 0, 0, 0, 0, ⟨#[]⟩, false)
def impl_ParseInstr.f (k : Nat) (a0 : ByteArray) : Option (Int × Int × Int × Int × Int × ByteArray × Bool) := (strings_Split.f a0 ⟨#[32]⟩).bind fun ws => if 0 < ws.length ∧ ws.length ≤ 4294967296 ∧ ∀ x ∈ ws, x.size ≤ 281474976710656 then (slices_Index_string_string.f k impl_OpName.tab (rdOf ByteArray.empty ws 0)).bind fun j => impl_ParseInstr.e k a0 (mx j 0) (impl_ParseInstr.l (impl_ParseInstr.fs (mx j 0)) (ws.drop 1) 0 0 0 (impl_ParseInstr.z (mx j 0)) (impl_ParseInstr.z (mx j 0)) ⟨#[]⟩) else none
theorem impl_ParseInstr.bx {w : World} {g : Nat} {a b c d e : Int} {s : ByteArray} (h : w.heap[g]? = some (.cells #[.int .i64 a, .int .i64 b, .int .i64 c, .int .i64 d, .int .i64 e, .string s] 27 (0, 0))) :
    w.cell? ⟨g, 0, none⟩ = some (Value.int .i64 a) ∧ w.cell? ⟨g, 1, none⟩ = some (Value.int .i64 b) ∧ w.cell? ⟨g, 2, none⟩ = some (Value.int .i64 c) ∧ w.cell? ⟨g, 3, none⟩ = some (Value.int .i64 d) ∧ w.cell? ⟨g, 4, none⟩ = some (Value.int .i64 e) ∧ w.cell? ⟨g, 5, none⟩ = some (Value.string s) ∧
    w.frozen? ⟨g, 0, none⟩ = false ∧ w.frozen? ⟨g, 1, none⟩ = false ∧ w.frozen? ⟨g, 2, none⟩ = false ∧ w.frozen? ⟨g, 3, none⟩ = false ∧ w.frozen? ⟨g, 4, none⟩ = false ∧ w.frozen? ⟨g, 5, none⟩ = false :=
  ⟨(blk_cell h 0).trans rfl, (blk_cell h 1).trans rfl, (blk_cell h 2).trans rfl, (blk_cell h 3).trans rfl, (blk_cell h 4).trans rfl, (blk_cell h 5).trans rfl, blk_frozen h 0, blk_frozen h 1, blk_frozen h 2, blk_frozen h 3, blk_frozen h 4, blk_frozen h 5⟩
theorem impl_ParseInstr.cellj {w : World} {g : Nat} {a b c d e : Int} {s : ByteArray} (h : w.heap[g]? = some (.cells #[.int .i64 a, .int .i64 b, .int .i64 c, .int .i64 d, .int .i64 e, .string s] 27 (0, 0))) {j : Nat} (hj : j = 1 ∨ j = 2 ∨ j = 3 ∨ j = 4) :
    (∃ x, w.cell? ⟨g, j, none⟩ = some (Value.int .i64 x)) ∧ w.frozen? ⟨g, j, none⟩ = false := by
  refine ⟨?_, blk_frozen h j⟩
  rcases hj with rfl | rfl | rfl | rfl
  · exact ⟨_, (blk_cell h 1).trans rfl⟩
  · exact ⟨_, (blk_cell h 2).trans rfl⟩
  · exact ⟨_, (blk_cell h 3).trans rfl⟩
  · exact ⟨_, (blk_cell h 4).trans rfl⟩
theorem impl_ParseInstr.putj {w : World} {g : Nat} {op a b c d : Int} {s : ByteArray} (h : w.heap[g]? = some (.cells #[.int .i64 op, .int .i64 a, .int .i64 b, .int .i64 c, .int .i64 d, .string s] 27 (0, 0))) {j : Nat} (hj : j = 1 ∨ j = 2 ∨ j = 3 ∨ j = 4) (n : Int) {q : Int × Int × Int × Int} (hq : impl_ParseInstr.put j n a b c d = q) :
    (w.setCell ⟨g, j, none⟩ (.int .i64 n)).heap[g]? = some (.cells #[.int .i64 op, .int .i64 q.1, .int .i64 q.2.1, .int .i64 q.2.2.1, .int .i64 q.2.2.2, .string s] 27 (0, 0)) := by
  subst hq
  rcases hj with rfl | rfl | rfl | rfl <;> exact blk_put h _ _ rfl
theorem impl_ParseInstr.fs_at {op : Int} {fs : List Nat} (h : fs = impl_ParseInstr.fs op) (i : Nat) (hi : i < fs.length) : fs.getD i 0 = 1 ∨ fs.getD i 0 = 2 ∨ fs.getD i 0 = 3 ∨ fs.getD i 0 = 4 := by
  have hm : fs.getD i 0 ∈ fs := by
    rw [List.getD_eq_getElem?_getD, List.getElem?_eq_getElem hi]
    exact List.getElem_mem hi
  obtain ⟨j, hj⟩ : ∃ j, j = fs.getD i 0 := ⟨_, rfl⟩
  rw [← hj] at hm ⊢
  rw [h] at hm
  unfold impl_ParseInstr.fs at hm
  split at hm
  · simp at hm; omega
  · split at hm
    · simp at hm; omega
    · simp at hm; omega
theorem impl_ParseInstr.tabC {w : World} (h : Go.Proofs.YtmipaoobkjppdaaDoor.TabFnExactParseInstr.Tabs w) : Kd.C Kd.string w (some ⟨0, 0, none⟩) impl_OpName.tab.length impl_OpName.tab := by
  refine Kd.C_of_reads (d := ByteArray.empty) ⟨rfl, by decide, fun _ => ⟨_, rfl, fun j hj => ?_⟩⟩
  have hc := World.var?_cell (g := 0) (by kernel_rfl) h.opNames j
  rw [add_plain]
  refine hc.trans ?_
  have h11 : j < 11 := hj
  have : j = 0 ∨ j = 1 ∨ j = 2 ∨ j = 3 ∨ j = 4 ∨ j = 5 ∨ j = 6 ∨ j = 7 ∨ j = 8 ∨ j = 9 ∨ j = 10 := by omega
  rcases this with rfl | rfl | rfl | rfl | rfl | rfl | rfl | rfl | rfl | rfl | rfl <;> rfl
theorem impl_ParseInstr.idx {w : World} {k : Nat} {s : ByteArray} {j : Int} (h : slices_Index_string_string.f k impl_OpName.tab s = some j) (htab : Go.Proofs.YtmipaoobkjppdaaDoor.TabFnExactParseInstr.Tabs w) : Calls Tryd.prog 64 #[.slice (some ⟨0, 0, none⟩) 11 11, .string s] w fun e w' => e = .returned (.int .i64 j) ∧ Drawn0 w w' :=
  slices_Index_string_string.calls k (some ⟨0, 0, none⟩) 11 impl_OpName.tab s j w (impl_ParseInstr.tabC htab) (by decide) h
theorem impl_ParseInstr.ptrE (g : Nat) : ∀ q, q ∈ 89 :: (impl_ParseInstr.ptr g).E → q ≠ 27 := by
  intro q hq
  have : q = 89 := by simpa [impl_ParseInstr.ptr, Kd.scalar] using hq
  omega
theorem impl_ParseInstr.ptr_at {w : World} {base gF cF gX : Nat} {ok : Nat → Prop} {fs : List Nat} (h : Kd.R (impl_ParseInstr.ptr gX) 89 w base ok (.slice (some ⟨gF, 0, none⟩) fs.length cF) fs) (kk : Nat) (hk : kk < fs.length) {jj : Nat} (hj : fs.getD kk 0 = jj) : w.cell? ⟨gF, kk, none⟩ = some (.pointer (some ⟨gX, jj, none⟩)) := by
  have h1 := (Kd.R_cell (0 : Nat) h (kk : Int) (by omega) (by omega)).1
  rw [Int.toNat_natCast] at h1
  rw [h1]
  unfold rdOf
  rw [Int.toNat_natCast, hj]
theorem impl_ParseInstr.word {w : World} {base gS cS : Nat} {ok : Nat → Prop} {ws : List ByteArray} (h : Kd.R Kd.string 9 w base ok (.slice (some ⟨gS, 0, none⟩) ws.length cS) ws) (hp : 0 < ws.length) (i : Int) (h0 : 0 ≤ i) (h1 : i < (ws.drop 1).length) :
    ∃ ad, (if cS = (1 : Int).toNat then some (⟨gS, 0, none⟩ : Addr) else (some (⟨gS, 0, none⟩ : Addr)).map (·.add ((1 : Int).toNat * 1))) = some ad ∧ w.cell? (ad.add i.toNat) = some (.string (rdOf ByteArray.empty (ws.drop 1) i)) := by
  obtain ⟨_, h2, h3⟩ := Kd.R_reads' h
  exact Kd.at_string (Kd.C_drop (m := 1) (c := cS) h3 hp h2) i h0 h1
set_option maxHeartbeats 16000000 in
set_option maxRecDepth 100000 in
theorem impl_ParseInstr.calls (k : Nat) (a0 : ByteArray) (r1 r2 r3 r4 r5 : Int) (r6 : ByteArray) (r7 : Bool) (w : World) (h : impl_ParseInstr.f k a0 = some (r1, r2, r3, r4, r5, r6, r7)) (htab : Go.Proofs.YtmipaoobkjppdaaDoor.TabFnExactParseInstr.Tabs w) :
    Calls Tryd.prog 36 #[.string a0] w fun e w' => e = .returned (.tuple #[.agg #[.int .i64 r1, .int .i64 r2, .int .i64 r3, .int .i64 r4, .int .i64 r5, .string r6], .bool r7]) ∧ Below w.heap.size w w' := by
  have hu27 := Tryd.underlying27
  have HB := Aside0.mk (Below.refl w.heap.size w)
  have HTAB := Aside0.mk htab
  clear htab
  unfold impl_ParseInstr.f at h
  obtain ⟨ws, A0, h⟩ := Option.bind_eq_some_iff.mp h
  have AS := Aside0.mk A0
  clear A0
  by_cases c : 0 < ws.length ∧ ws.length ≤ 4294967296 ∧ ∀ x ∈ ws, x.size ≤ 281474976710656
  · rw [if_pos c] at h
    obtain ⟨j, A0, h⟩ := Option.bind_eq_some_iff.mp h
    have AI := Aside0.mk A0
    obtain ⟨op, hmx⟩ : ∃ op, (if j < 0 then (0 : Int) else j) = op := ⟨_, rfl⟩
    have LW := Aside0.mk c.1
    have LM := Aside0.mk c.2.1
    have HWZ := Aside0.mk c.2.2
    obtain ⟨rest, hrest⟩ : ∃ y, y = ws.drop 1 := ⟨_, rfl⟩
    have HLR := Aside0.mk (show ws.length - (1 : Int).toNat = rest.length from by rw [hrest, List.length_drop]; rfl)
    rw [show mx j 0 = op from hmx, ← hrest] at h
    have HL0 := Aside0.mk h
    have HRS := Aside0.mk hrest
    have hlw : (0 : Int) < (ws.length : Int) := by have := c.1; omega
    have hlw2 := eq_true hlw
    have hlw3 := eq_true c.1
    clear A0 c h hrest
    go_enter Tryd.func36, Tryd.ntmps36
    go_wp2_with (first | ((with_reducible refine gate_dst (N := 2) rfl ?_); refine box_event ?hg2 (N := 2) ?hd2 (cs := #[.int .i64 0, .int .i64 0, .int .i64 0, .int .i64 0, .int .i64 0, .string ⟨#[]⟩]) (t := 27) ?hr2 ?_; (case hd2 => rfl); (case hg2 => rfl); (case hr2 => first | (go_simp; done) | (go_simp; rfl)); intro gR hg w1 hbox hb; have GR := Aside0.mk (show w.heap.size ≤ gR from by rw [hg]; exact below_size HB.out); have n0_ := Aside0.mk (below_step HB.out hb); have n1_ := Aside0.mk (hbox); clear HB; have HB := n0_; have BR := n1_; clear n0_ n1_; clear hb hbox hg) | (go_at_call 63; (with_reducible refine (strings_Split.calls a0 ⟨#[32]⟩ ws _ AS.out ?tabS).mono ?_); (case tabS => exact (HTAB.out).below HB.out); rintro e w2 ⟨v13, rfl, ho, hb⟩; obtain ⟨gS, cS, eS, hgS, _⟩ := Kd.R_form ho LW.out; subst eS; have ho := Kd.R_lower ho (below_size HB.out); have hq_ := (Kd.R_reads' ho).2.1; obtain ⟨i0, hi0, _, hsz, _⟩ := info_parts info9; have hcut := cut_from (P := Tryd.prog) 62 9 .i64 Tryd.underlying62 hi0 1 hsz (some ⟨gS, 0, none⟩) ws.length cS 1 (by decide) (by have := LW.out; omega); obtain ⟨A48, hA48⟩ : ∃ A1, A1 = (if cS = (1 : Int).toNat then some (⟨gS, 0, none⟩ : Addr) else (some (⟨gS, 0, none⟩ : Addr)).map (·.add ((1 : Int).toNat * 1))) := ⟨_, rfl⟩; obtain ⟨c48, hc48⟩ : ∃ c1, c1 = cS - (1 : Int).toNat := ⟨_, rfl⟩; rw [← hA48, ← hc48, show ws.length - (1 : Int).toNat = rest.length from HLR.out] at hcut; have HA48 := Aside0.mk hA48; clear hA48 hc48 hi0 hsz hgS hq_; have hcw := (Kd.R_cell ByteArray.empty ho 0 (by decide) (by have := LW.out; omega)).1; have n0_ := Aside0.mk (blk_below BR.out hb); have n1_ := Aside0.mk (below_step HB.out hb); have n2_ := Aside0.mk (ho); clear BR HB; have BR := n0_; have HB := n1_; have HS := n2_; clear n0_ n1_ n2_; clear hb ho))
    have n1_ := Aside0.mk (blk_drew BR.out)
    have n2_ := Aside0.mk (Kd.R_drew HS.out)
    have n3_ := Aside0.mk (below_drew1 HB.out)
    clear BR HS HB
    have BR := n1_
    have HS := n2_
    have HB := n3_
    clear n1_ n2_ n3_ hcw
    refine start_ (n := 9) (S := fun w' => w'.cell? ⟨gS, 0, none⟩ = some (.string (rdOf ByteArray.empty ws 0))) (ds := [8]) #[false, false, false, false, false, false, false, false, false] (by kernel_rfl) rfl rfl (Kd.R_cell ByteArray.empty HS.out 0 (by decide) (by have := LW.out; omega)).1 (fun hHeld => ?_)
    generalize w2.drew = wd at BR HS HB hHeld ⊢
    refine pure_ (i := 0) (N := some 14) (v := ?_) (a' := ?_) #[true, false, false, false, false, false, false, false, false] rfl rfl (by kernel_rfl) (fun _ _ _ h => h) (Or.inl ⟨by rfl, ?_⟩) ?_ ?_
    rotate_left
    · intro w'
      go_simp
      with_reducible rfl
    rotate_left
    · simp only [Act.put, List.setIfInBounds_toArray, List.set_cons_zero, List.set_cons_succ, i64_w, i32_w]
      rfl
    refine pure_ (i := 1) (N := some 15) (v := ?_) (a' := ?_) #[true, true, false, false, false, false, false, false, false] rfl rfl (by kernel_rfl) (fun _ _ _ h => h) (Or.inl ⟨by rfl, ?_⟩) ?_ ?_
    rotate_left
    · intro w'
      go_simp
      with_reducible rfl
    rotate_left
    · simp only [Act.put, List.setIfInBounds_toArray, List.set_cons_zero, List.set_cons_succ, i64_w, i32_w]
      rfl
    refine pure_ (i := 2) (N := some 16) (v := ?_) (a' := ?_) #[true, true, true, false, false, false, false, false, false] rfl rfl (by kernel_rfl) (fun _ _ _ h => h) (Or.inl ⟨by rfl, ?_⟩) ?_ ?_
    rotate_left
    · intro w'
      go_simp
      with_reducible rfl
    rotate_left
    · simp only [Act.put, List.setIfInBounds_toArray, List.set_cons_zero, List.set_cons_succ, i64_w, i32_w]
      rfl
    refine take_ (i := 3) (N := some 17) (v := ?_) (a' := ?_) #[true, true, true, true, false, false, false, false, false] rfl rfl (by kernel_rfl) (fun _ _ _ h => h) (Or.inl ⟨by rfl, ?_⟩) hHeld ?_ ?_
    rotate_left
    · intro w' s0
      go_simp
      with_reducible rfl
    rotate_left
    · simp only [Act.put, List.setIfInBounds_toArray, List.set_cons_zero, List.set_cons_succ, i64_w, i32_w]
      rfl
    refine join_ (σ := Nat) 1 #[true, true, true, true, true, true, true, true, false] (fun gX => [(5, .pointer (some ⟨gX, 0, none⟩)), (18, .int .i64 j), (19, .int .i64 op), (20, .agg #[.int .i64 op, .int .i64 0, .int .i64 0, .int .i64 0, .int .i64 0, .string ⟨#[]⟩])]) (fun gX w' => w'.cell? ⟨gS, 0, none⟩ = some (.string (rdOf ByteArray.empty ws 0)) ∧ w'.heap[gR]? = some (.cells #[.int .i64 0, .int .i64 0, .int .i64 0, .int .i64 0, .int .i64 0, .string ⟨#[]⟩] 27 (0, 0)) ∧ gR ≠ gX ∧ w.heap.size ≤ gX ∧ w'.heap[gX]? = some (.cells #[.int .i64 0, .int .i64 0, .int .i64 0, .int .i64 0, .int .i64 0, .string ⟨#[]⟩] 27 (0, 0)) ∧ Kd.R Kd.string 9 w' w.heap.size (fun _ => True) (.slice (some ⟨gS, 0, none⟩) ws.length cS) ws ∧ Below w.heap.size w w') ?_ ?_
    rotate_left
    · intro hCont
      refine two_ (i := 4) (j := 7) (Ni := some 18) (Nj := some 5) #[true, true, true, true, true, false, false, false, false] #[true, true, true, true, false, false, false, true, false] rfl rfl rfl rfl (by kernel_rfl) (by decide) (by decide) (fun K hK => ?_) (fun K hK => ?_)
      · skip
        refine goes_ Tryd.func64 (by kernel_rfl) rfl #[.slice (some ⟨0, 0, none⟩) 11 11, .string (rdOf ByteArray.empty ws 0)] (by rfl) rfl rfl (by (try simp only [List.map_toArray, List.map_cons, List.map_nil]); first | done | rfl) ?_
        with_reducible refine (impl_ParseInstr.idx AI.out ((HTAB.out).below HB.out)).mono ?_
        rintro e w3 ⟨rfl, hd⟩
        refine ⟨_, rfl, ?_⟩
        have hb := hd.below
        clear hd
        have n0_ := Aside0.mk (blk_below BR.out hb)
        have n1_ := Aside0.mk (Kd.R_below HS.out hb)
        have n2_ := Aside0.mk (below_step HB.out hb)
        clear BR HS HB
        have BR := n0_
        have HS := n1_
        have HB := n2_
        clear n0_ n1_ n2_
        clear hb
        refine hK.out _ _ (Kd.R_cell ByteArray.empty HS.out 0 (by decide) (by have := LW.out; omega)).1 (fun hHeld => ?_)
        clear hK K
        refine norm_ (a' := ?_) ?_ ?_
        rotate_left
        · show Act.put _ (some 18) _ = _
          simp only [Act.put, List.setIfInBounds_toArray, List.set_cons_zero, List.set_cons_succ, i64_w, i32_w]
          rfl
        refine pure_ (i := 5) (N := some 19) (v := ?_) (a' := ?_) #[true, true, true, true, true, true, false, false, false] rfl rfl (by kernel_rfl) (fun _ _ _ h => h) (Or.inl ⟨by rfl, ?_⟩) ?_ ?_
        rotate_left
        · intro w'
          go_simp
          with_reducible rfl
        rotate_left
        · simp only [Act.put, List.setIfInBounds_toArray, List.set_cons_zero, List.set_cons_succ, i64_w, i32_w]
          rfl
        refine pure_ (i := 6) (N := some 20) (v := ?_) (a' := ?_) #[true, true, true, true, true, true, true, false, false] rfl rfl (by kernel_rfl) (fun _ _ _ h => h) (Or.inl ⟨by rfl, ?_⟩) ?_ ?_
        rotate_left
        · intro w'
          go_simp
          with_reducible rfl
        rotate_left
        · simp only [Act.put, List.setIfInBounds_toArray, List.set_cons_zero, List.set_cons_succ, i64_w, i32_w]
          rfl
        refine one_ (i := 7) (N := some 5) #[true, true, true, true, true, true, true, true, false] rfl rfl (by kernel_rfl) (by decide) (fun K hK => ?_)
        refine box_step (by rfl) (N := 5) rfl (cs := #[.int .i64 0, .int .i64 0, .int .i64 0, .int .i64 0, .int .i64 0, .string ⟨#[]⟩]) (t := 27) (by first | (go_simp; done) | (go_simp; rfl)) ?_
        intro gX hg w4 hbox hb
        have GX := Aside0.mk (show w.heap.size ≤ gX from by rw [hg]; exact below_size HB.out)
        have NE := Aside0.mk (show gR ≠ gX from by rw [hg]; exact Nat.ne_of_lt (blk_lt BR.out))
        have n0_ := Aside0.mk (blk_below BR.out hb)
        have n1_ := Aside0.mk (Kd.R_below HS.out hb)
        have n2_ := Aside0.mk (below_step HB.out hb)
        have n3_ := Aside0.mk (hbox)
        clear BR HS HB
        have BR := n0_
        have HS := n1_
        have HB := n2_
        have BX := n3_
        clear n0_ n1_ n2_ n3_
        clear hb hbox hg
        refine hK.out _ _ (Kd.R_cell ByteArray.empty HS.out 0 (by decide) (by have := LW.out; omega)).1 (fun hHeld => ?_)
        clear hK K
        refine norm_ (a' := ?_) ?_ ?_
        rotate_left
        · show Act.put _ (some 5) _ = _
          simp only [Act.put, List.setIfInBounds_toArray, List.set_cons_zero, List.set_cons_succ, i64_w, i32_w]
          rfl
        exact norm_ (by simp only [putAll, Act.put, List.setIfInBounds_toArray, List.set_cons_zero, List.set_cons_succ]) (hCont gX _ ⟨hHeld, BR.out, NE.out, GX.out, BX.out, HS.out, HB.out⟩)
      · skip
        refine box_step (by rfl) (N := 5) rfl (cs := #[.int .i64 0, .int .i64 0, .int .i64 0, .int .i64 0, .int .i64 0, .string ⟨#[]⟩]) (t := 27) (by first | (go_simp; done) | (go_simp; rfl)) ?_
        intro gX hg w4 hbox hb
        have GX := Aside0.mk (show w.heap.size ≤ gX from by rw [hg]; exact below_size HB.out)
        have NE := Aside0.mk (show gR ≠ gX from by rw [hg]; exact Nat.ne_of_lt (blk_lt BR.out))
        have n0_ := Aside0.mk (blk_below BR.out hb)
        have n1_ := Aside0.mk (Kd.R_below HS.out hb)
        have n2_ := Aside0.mk (below_step HB.out hb)
        have n3_ := Aside0.mk (hbox)
        clear BR HS HB
        have BR := n0_
        have HS := n1_
        have HB := n2_
        have BX := n3_
        clear n0_ n1_ n2_ n3_
        clear hb hbox hg
        refine hK.out _ _ (Kd.R_cell ByteArray.empty HS.out 0 (by decide) (by have := LW.out; omega)).1 (fun hHeld => ?_)
        clear hK K
        refine norm_ (a' := ?_) ?_ ?_
        rotate_left
        · show Act.put _ (some 5) _ = _
          simp only [Act.put, List.setIfInBounds_toArray, List.set_cons_zero, List.set_cons_succ, i64_w, i32_w]
          rfl
        refine one_ (i := 4) (N := some 18) #[true, true, true, true, true, false, false, true, false] rfl rfl (by kernel_rfl) (by decide) (fun K hK => ?_)
        refine goes_ Tryd.func64 (by kernel_rfl) rfl #[.slice (some ⟨0, 0, none⟩) 11 11, .string (rdOf ByteArray.empty ws 0)] (by rfl) rfl rfl (by (try simp only [List.map_toArray, List.map_cons, List.map_nil]); first | done | rfl) ?_
        with_reducible refine (impl_ParseInstr.idx AI.out ((HTAB.out).below HB.out)).mono ?_
        rintro e w3 ⟨rfl, hd⟩
        refine ⟨_, rfl, ?_⟩
        have hb := hd.below
        clear hd
        have n0_ := Aside0.mk (blk_below BR.out hb)
        have n1_ := Aside0.mk (Kd.R_below HS.out hb)
        have n2_ := Aside0.mk (below_step HB.out hb)
        have n3_ := Aside0.mk (blk_below BX.out hb)
        clear BR HS HB BX
        have BR := n0_
        have HS := n1_
        have HB := n2_
        have BX := n3_
        clear n0_ n1_ n2_ n3_
        clear hb
        refine hK.out _ _ (Kd.R_cell ByteArray.empty HS.out 0 (by decide) (by have := LW.out; omega)).1 (fun hHeld => ?_)
        clear hK K
        refine norm_ (a' := ?_) ?_ ?_
        rotate_left
        · show Act.put _ (some 18) _ = _
          simp only [Act.put, List.setIfInBounds_toArray, List.set_cons_zero, List.set_cons_succ, i64_w, i32_w]
          rfl
        refine pure_ (i := 5) (N := some 19) (v := ?_) (a' := ?_) #[true, true, true, true, true, true, false, true, false] rfl rfl (by kernel_rfl) (fun _ _ _ h => h) (Or.inl ⟨by rfl, ?_⟩) ?_ ?_
        rotate_left
        · intro w'
          go_simp
          with_reducible rfl
        rotate_left
        · simp only [Act.put, List.setIfInBounds_toArray, List.set_cons_zero, List.set_cons_succ, i64_w, i32_w]
          rfl
        refine pure_ (i := 6) (N := some 20) (v := ?_) (a' := ?_) #[true, true, true, true, true, true, true, true, false] rfl rfl (by kernel_rfl) (fun _ _ _ h => h) (Or.inl ⟨by rfl, ?_⟩) ?_ ?_
        rotate_left
        · intro w'
          go_simp
          with_reducible rfl
        rotate_left
        · simp only [Act.put, List.setIfInBounds_toArray, List.set_cons_zero, List.set_cons_succ, i64_w, i32_w]
          rfl
        exact norm_ (by simp only [putAll, Act.put, List.setIfInBounds_toArray, List.set_cons_zero, List.set_cons_succ]) (hCont gX _ ⟨hHeld, BR.out, NE.out, GX.out, BX.out, HS.out, HB.out⟩)
    rintro gX w4 ⟨hS_, h0_, h1_, h2_, h3_, h4_, h5_⟩
    clear BR HS HB hS_ hHeld
    have BR := Aside0.mk h0_
    have NE := Aside0.mk h1_
    have GX := Aside0.mk h2_
    have BX := Aside0.mk h3_
    have HS := Aside0.mk h4_
    have HB := Aside0.mk h5_
    clear h0_ h1_ h2_ h3_ h4_ h5_
    obtain ⟨h0_, h1_, h2_, h3_, h4_, h5_, f0_, f1_, f2_, f3_, f4_, f5_⟩ := impl_ParseInstr.bx BX.out
    refine norm_ (a' := ?_) ?_ ?_
    rotate_left
    · simp only [putAll, Act.put, List.setIfInBounds_toArray, List.set_cons_zero, List.set_cons_succ]
      rfl
    refine last_ (i := 8) (N := none) #[true, true, true, true, true, true, true, true, true] rfl rfl (by kernel_rfl) (by decide) (fun K hK => ?_)
    rw [if_pos (by rfl)]
    unfold Oper.wp
    rw [show (execOp _ _).run _ _ = .ok .skip ((((((w4.setCell ⟨gX, 0, none⟩ (.int .i64 op)).setCell ⟨gX, 1, none⟩ (.int .i64 0)).setCell ⟨gX, 2, none⟩ (.int .i64 0)).setCell ⟨gX, 3, none⟩ (.int .i64 0)).setCell ⟨gX, 4, none⟩ (.int .i64 0)).setCell ⟨gX, 5, none⟩ (.string (⟨#[]⟩ : ByteArray))) from by first | (go_simp; done) | (go_simp; rfl)]
    obtain ⟨w5, hw⟩ : ∃ W_, W_ = ((((((w4.setCell ⟨gX, 0, none⟩ (.int .i64 op)).setCell ⟨gX, 1, none⟩ (.int .i64 0)).setCell ⟨gX, 2, none⟩ (.int .i64 0)).setCell ⟨gX, 3, none⟩ (.int .i64 0)).setCell ⟨gX, 4, none⟩ (.int .i64 0)).setCell ⟨gX, 5, none⟩ (.string (⟨#[]⟩ : ByteArray))) := ⟨_, rfl⟩
    rw [← hw]
    have n0_ := Aside0.mk (show w5.heap[gR]? = some (.cells #[.int .i64 0, .int .i64 0, .int .i64 0, .int .i64 0, .int .i64 0, .string ⟨#[]⟩] 27 (0, 0)) from by rw [hw]; exact (blk_far (blk_far (blk_far (blk_far (blk_far (blk_far BR.out NE.out _) NE.out _) NE.out _) NE.out _) NE.out _) NE.out _))
    have n1_ := Aside0.mk (show Kd.R Kd.string 9 w5 w.heap.size (fun _ => True) (.slice (some ⟨gS, 0, none⟩) ws.length cS) ws from by rw [hw]; exact (Kd.R_set (Kd.R_set (Kd.R_set (Kd.R_set (Kd.R_set (Kd.R_set HS.out BX.out (by decide) 0 _) (blk_put BX.out 0 _ rfl) (by decide) 1 _) (blk_put (blk_put BX.out 0 _ rfl) 1 _ rfl) (by decide) 2 _) (blk_put (blk_put (blk_put BX.out 0 _ rfl) 1 _ rfl) 2 _ rfl) (by decide) 3 _) (blk_put (blk_put (blk_put (blk_put BX.out 0 _ rfl) 1 _ rfl) 2 _ rfl) 3 _ rfl) (by decide) 4 _) (blk_put (blk_put (blk_put (blk_put (blk_put BX.out 0 _ rfl) 1 _ rfl) 2 _ rfl) 3 _ rfl) 4 _ rfl) (by decide) 5 _))
    have n2_ := Aside0.mk (show Below w.heap.size w w5 from by rw [hw]; exact (below_set (below_set (below_set (below_set (below_set (below_set HB.out GX.out) GX.out) GX.out) GX.out) GX.out) GX.out))
    have n3_ := Aside0.mk (show w5.heap[gX]? = some (.cells #[.int .i64 op, .int .i64 0, .int .i64 0, .int .i64 0, .int .i64 0, .string ⟨#[]⟩] 27 (0, 0)) from by rw [hw]; exact (blk_put (blk_put (blk_put (blk_put (blk_put (blk_put BX.out 0 _ rfl) 1 _ rfl) 2 _ rfl) 3 _ rfl) 4 _ rfl) 5 _ rfl))
    clear BR HS HB BX
    have BR := n0_
    have HS := n1_
    have HB := n2_
    have BX := n3_
    clear n0_ n1_ n2_ n3_
    clear hw
    obtain ⟨h0_, h1_, h2_, h3_, h4_, h5_, f0_, f1_, f2_, f3_, f4_, f5_⟩ := impl_ParseInstr.bx BX.out
    refine hK.out _ _ ?_
    clear hK K
    refine done_ (by kernel_rfl) ?_
    rcases (show op = 6 ∨ op = 7 ∨ (op ≠ 6 ∧ op ≠ 7) from by omega) with c6 | c7 | ⟨c6, c7⟩
    focus
      have q6 : (op == 6) = true := by rw [c6]; rfl
      have q7 : (op == 7) = false := by rw [c6]; rfl
      have HZ := Aside0.mk (show impl_ParseInstr.fs op = [1, 2, 3, 4] ∧ impl_ParseInstr.z op = -1 from ⟨by unfold impl_ParseInstr.fs; rw [if_pos c6], by unfold impl_ParseInstr.z; rw [if_pos c6]⟩)
      clear c6
      go_wp2_with (first | ((with_reducible refine gate_dst (N := 24) rfl ?_); refine Kd.R_lit (impl_ParseInstr.ptr gX) (w0 := w) w.heap.size 89 ?hg24 (N := 24) ?hd24 (xs := [1, 2, 3]) (inner := [.pointer (some ⟨gX, 1, none⟩), .pointer (some ⟨gX, 2, none⟩), .pointer (some ⟨gX, 3, none⟩)]) (ok := fun _ => True) (okp := fun _ => True) ?hr24 ?hp24 (fun _ hk => hk) trivial HB.out (below_size HB.out) (by simp) ?_; (case hd24 => rfl); (case hg24 => rfl); (case hr24 => first | (go_simp; done) | (go_simp; rfl)); (case hp24 => exact Kd.reps_scalar [1, 2, 3]); intro v24 w6 ho hb hg_ hnew_; have hfe := hg_.block gX (blk_lt BX.out) (by simp); have hre := hg_.block gR (blk_lt BR.out) (by simp); have hse := Kd.R_grown HS.out hg_ (fun _ _ => by simp); obtain ⟨fs, hfs⟩ : ∃ y_ : List Nat, y_ = [1, 2, 3] := ⟨_, rfl⟩; rw [← hfs] at ho; have HFS := Aside0.mk hfs; obtain ⟨AF, cF, eF⟩ := Kd.R_slice ho; subst eF; have n0_ := Aside0.mk (hfe.trans BX.out); have n1_ := Aside0.mk (hre.trans BR.out); have n2_ := Aside0.mk (hse); have n3_ := Aside0.mk (hb); have n4_ := Aside0.mk (ho); clear BX BR HS HB; have BX := n0_; have BR := n1_; have HS := n2_; have HB := n3_; have HF := n4_; clear n0_ n1_ n2_ n3_ n4_; clear hb ho hg_ hnew_ hfe hre hse hfs; obtain ⟨h0_, h1_, h2_, h3_, h4_, h5_, f0_, f1_, f2_, f3_, f4_, f5_⟩ := impl_ParseInstr.bx BX.out) | ((with_reducible refine gate_store (t := 3) (p := 33) rfl ?_); refine store_event (t := 3) (p := 33) (v := .const (.int .i64 (-1))) (w1 := (w6.setCell ⟨gX, 3, none⟩ (.int .i64 (-1)))) ?hgs33 ?hos33 ?hns33 ?hrs33 ?_; (case hos33 => rfl); (case hgs33 => rfl); (case hns33 => rfl); (case hrs33 => first | (go_simp; done) | (go_simp; rfl)); intro w7 hw; have n0_ := Aside0.mk (show w7.heap[gR]? = some (.cells #[.int .i64 0, .int .i64 0, .int .i64 0, .int .i64 0, .int .i64 0, .string ⟨#[]⟩] 27 (0, 0)) from by rw [hw]; exact (blk_far BR.out NE.out _)); have n1_ := Aside0.mk (show Kd.R Kd.string 9 w7 w.heap.size (fun _ => True) (.slice (some ⟨gS, 0, none⟩) ws.length cS) ws from by rw [hw]; exact (Kd.R_set HS.out BX.out (by decide) 3 _)); have n2_ := Aside0.mk (show Below w.heap.size w w7 from by rw [hw]; exact (below_set HB.out GX.out)); have n3_ := Aside0.mk (show Kd.R (impl_ParseInstr.ptr gX) 89 w7 w.heap.size (fun _ => True) (.slice AF fs.length cF) fs from by rw [hw]; exact (Kd.R_set HF.out BX.out (impl_ParseInstr.ptrE gX) 3 _)); have n4_ := Aside0.mk (show w7.heap[gX]? = some (.cells #[.int .i64 op, .int .i64 0, .int .i64 0, .int .i64 (-1), .int .i64 0, .string ⟨#[]⟩] 27 (0, 0)) from by rw [hw]; exact (blk_put BX.out 3 _ rfl)); clear BR HS HB HF BX; have BR := n0_; have HS := n1_; have HB := n2_; have HF := n3_; have BX := n4_; clear n0_ n1_ n2_ n3_ n4_; clear hw; obtain ⟨h0_, h1_, h2_, h3_, h4_, h5_, f0_, f1_, f2_, f3_, f4_, f5_⟩ := impl_ParseInstr.bx BX.out) | ((with_reducible refine gate_store (t := 3) (p := 34) rfl ?_); refine store_event (t := 3) (p := 34) (v := .const (.int .i64 (-1))) (w1 := (w7.setCell ⟨gX, 4, none⟩ (.int .i64 (-1)))) ?hgs34 ?hos34 ?hns34 ?hrs34 ?_; (case hos34 => rfl); (case hgs34 => rfl); (case hns34 => rfl); (case hrs34 => first | (go_simp; done) | (go_simp; rfl)); intro w8 hw; have n0_ := Aside0.mk (show w8.heap[gR]? = some (.cells #[.int .i64 0, .int .i64 0, .int .i64 0, .int .i64 0, .int .i64 0, .string ⟨#[]⟩] 27 (0, 0)) from by rw [hw]; exact (blk_far BR.out NE.out _)); have n1_ := Aside0.mk (show Kd.R Kd.string 9 w8 w.heap.size (fun _ => True) (.slice (some ⟨gS, 0, none⟩) ws.length cS) ws from by rw [hw]; exact (Kd.R_set HS.out BX.out (by decide) 4 _)); have n2_ := Aside0.mk (show Below w.heap.size w w8 from by rw [hw]; exact (below_set HB.out GX.out)); have n3_ := Aside0.mk (show Kd.R (impl_ParseInstr.ptr gX) 89 w8 w.heap.size (fun _ => True) (.slice AF fs.length cF) fs from by rw [hw]; exact (Kd.R_set HF.out BX.out (impl_ParseInstr.ptrE gX) 4 _)); have n4_ := Aside0.mk (show w8.heap[gX]? = some (.cells #[.int .i64 op, .int .i64 0, .int .i64 0, .int .i64 (-1), .int .i64 (-1), .string ⟨#[]⟩] 27 (0, 0)) from by rw [hw]; exact (blk_put BX.out 4 _ rfl)); clear BR HS HB HF BX; have BR := n0_; have HS := n1_; have HB := n2_; have HF := n3_; have BX := n4_; clear n0_ n1_ n2_ n3_ n4_; clear hw; obtain ⟨h0_, h1_, h2_, h3_, h4_, h5_, f0_, f1_, f2_, f3_, f4_, f5_⟩ := impl_ParseInstr.bx BX.out) | ((with_reducible refine gate_dst (N := 39) rfl ?_); refine Kd.R_lit (impl_ParseInstr.ptr gX) (w0 := w) w.heap.size 89 ?hg39 (N := 39) ?hd39 (xs := [1, 2, 3, 4]) (inner := [.pointer (some ⟨gX, 1, none⟩), .pointer (some ⟨gX, 2, none⟩), .pointer (some ⟨gX, 3, none⟩), .pointer (some ⟨gX, 4, none⟩)]) (ok := fun _ => True) (okp := fun _ => True) ?hr39 ?hp39 (fun _ hk => hk) trivial HB.out (below_size HB.out) (by simp) ?_; (case hd39 => rfl); (case hg39 => rfl); (case hr39 => first | (go_simp; done) | (go_simp; rfl)); (case hp39 => exact Kd.reps_scalar [1, 2, 3, 4]); intro v39 w9 ho hb hg_ hnew_; have hfe := hg_.block gX (blk_lt BX.out) (by simp); have hre := hg_.block gR (blk_lt BR.out) (by simp); have hse := Kd.R_grown HS.out hg_ (fun _ _ => by simp); obtain ⟨fs, hfs⟩ : ∃ y_ : List Nat, y_ = [1, 2, 3, 4] := ⟨_, rfl⟩; rw [← hfs] at ho; have HFS := Aside0.mk hfs; obtain ⟨AF, cF, eF⟩ := Kd.R_slice ho; subst eF; have n0_ := Aside0.mk (hfe.trans BX.out); have n1_ := Aside0.mk (hre.trans BR.out); have n2_ := Aside0.mk (hse); have n3_ := Aside0.mk (hb); have n4_ := Aside0.mk (ho); clear BX BR HS HB; have BX := n0_; have BR := n1_; have HS := n2_; have HB := n3_; have HF := n4_; clear n0_ n1_ n2_ n3_ n4_; clear hb ho hg_ hnew_ hfe hre hse hfs; obtain ⟨h0_, h1_, h2_, h3_, h4_, h5_, f0_, f1_, f2_, f3_, f4_, f5_⟩ := impl_ParseInstr.bx BX.out))
    rotate_left
    focus
      have q6 : (op == 6) = false := by rw [c7]; rfl
      have q7 : (op == 7) = true := by rw [c7]; rfl
      have HZ := Aside0.mk (show impl_ParseInstr.fs op = [1, 3, 4] ∧ impl_ParseInstr.z op = -1 from ⟨by unfold impl_ParseInstr.fs; rw [c7]; rfl, by unfold impl_ParseInstr.z; rw [c7]; rfl⟩)
      clear c7
      go_wp2_with (first | ((with_reducible refine gate_dst (N := 24) rfl ?_); refine Kd.R_lit (impl_ParseInstr.ptr gX) (w0 := w) w.heap.size 89 ?hg24 (N := 24) ?hd24 (xs := [1, 2, 3]) (inner := [.pointer (some ⟨gX, 1, none⟩), .pointer (some ⟨gX, 2, none⟩), .pointer (some ⟨gX, 3, none⟩)]) (ok := fun _ => True) (okp := fun _ => True) ?hr24 ?hp24 (fun _ hk => hk) trivial HB.out (below_size HB.out) (by simp) ?_; (case hd24 => rfl); (case hg24 => rfl); (case hr24 => first | (go_simp; done) | (go_simp; rfl)); (case hp24 => exact Kd.reps_scalar [1, 2, 3]); intro v24 w6 ho hb hg_ hnew_; have hfe := hg_.block gX (blk_lt BX.out) (by simp); have hre := hg_.block gR (blk_lt BR.out) (by simp); have hse := Kd.R_grown HS.out hg_ (fun _ _ => by simp); obtain ⟨fs, hfs⟩ : ∃ y_ : List Nat, y_ = [1, 2, 3] := ⟨_, rfl⟩; rw [← hfs] at ho; have HFS := Aside0.mk hfs; obtain ⟨AF, cF, eF⟩ := Kd.R_slice ho; subst eF; have n0_ := Aside0.mk (hfe.trans BX.out); have n1_ := Aside0.mk (hre.trans BR.out); have n2_ := Aside0.mk (hse); have n3_ := Aside0.mk (hb); have n4_ := Aside0.mk (ho); clear BX BR HS HB; have BX := n0_; have BR := n1_; have HS := n2_; have HB := n3_; have HF := n4_; clear n0_ n1_ n2_ n3_ n4_; clear hb ho hg_ hnew_ hfe hre hse hfs; obtain ⟨h0_, h1_, h2_, h3_, h4_, h5_, f0_, f1_, f2_, f3_, f4_, f5_⟩ := impl_ParseInstr.bx BX.out) | ((with_reducible refine gate_store (t := 3) (p := 33) rfl ?_); refine store_event (t := 3) (p := 33) (v := .const (.int .i64 (-1))) (w1 := (w6.setCell ⟨gX, 3, none⟩ (.int .i64 (-1)))) ?hgs33 ?hos33 ?hns33 ?hrs33 ?_; (case hos33 => rfl); (case hgs33 => rfl); (case hns33 => rfl); (case hrs33 => first | (go_simp; done) | (go_simp; rfl)); intro w7 hw; have n0_ := Aside0.mk (show w7.heap[gR]? = some (.cells #[.int .i64 0, .int .i64 0, .int .i64 0, .int .i64 0, .int .i64 0, .string ⟨#[]⟩] 27 (0, 0)) from by rw [hw]; exact (blk_far BR.out NE.out _)); have n1_ := Aside0.mk (show Kd.R Kd.string 9 w7 w.heap.size (fun _ => True) (.slice (some ⟨gS, 0, none⟩) ws.length cS) ws from by rw [hw]; exact (Kd.R_set HS.out BX.out (by decide) 3 _)); have n2_ := Aside0.mk (show Below w.heap.size w w7 from by rw [hw]; exact (below_set HB.out GX.out)); have n3_ := Aside0.mk (show Kd.R (impl_ParseInstr.ptr gX) 89 w7 w.heap.size (fun _ => True) (.slice AF fs.length cF) fs from by rw [hw]; exact (Kd.R_set HF.out BX.out (impl_ParseInstr.ptrE gX) 3 _)); have n4_ := Aside0.mk (show w7.heap[gX]? = some (.cells #[.int .i64 op, .int .i64 0, .int .i64 0, .int .i64 (-1), .int .i64 0, .string ⟨#[]⟩] 27 (0, 0)) from by rw [hw]; exact (blk_put BX.out 3 _ rfl)); clear BR HS HB HF BX; have BR := n0_; have HS := n1_; have HB := n2_; have HF := n3_; have BX := n4_; clear n0_ n1_ n2_ n3_ n4_; clear hw; obtain ⟨h0_, h1_, h2_, h3_, h4_, h5_, f0_, f1_, f2_, f3_, f4_, f5_⟩ := impl_ParseInstr.bx BX.out) | ((with_reducible refine gate_store (t := 3) (p := 34) rfl ?_); refine store_event (t := 3) (p := 34) (v := .const (.int .i64 (-1))) (w1 := (w7.setCell ⟨gX, 4, none⟩ (.int .i64 (-1)))) ?hgs34 ?hos34 ?hns34 ?hrs34 ?_; (case hos34 => rfl); (case hgs34 => rfl); (case hns34 => rfl); (case hrs34 => first | (go_simp; done) | (go_simp; rfl)); intro w8 hw; have n0_ := Aside0.mk (show w8.heap[gR]? = some (.cells #[.int .i64 0, .int .i64 0, .int .i64 0, .int .i64 0, .int .i64 0, .string ⟨#[]⟩] 27 (0, 0)) from by rw [hw]; exact (blk_far BR.out NE.out _)); have n1_ := Aside0.mk (show Kd.R Kd.string 9 w8 w.heap.size (fun _ => True) (.slice (some ⟨gS, 0, none⟩) ws.length cS) ws from by rw [hw]; exact (Kd.R_set HS.out BX.out (by decide) 4 _)); have n2_ := Aside0.mk (show Below w.heap.size w w8 from by rw [hw]; exact (below_set HB.out GX.out)); have n3_ := Aside0.mk (show Kd.R (impl_ParseInstr.ptr gX) 89 w8 w.heap.size (fun _ => True) (.slice AF fs.length cF) fs from by rw [hw]; exact (Kd.R_set HF.out BX.out (impl_ParseInstr.ptrE gX) 4 _)); have n4_ := Aside0.mk (show w8.heap[gX]? = some (.cells #[.int .i64 op, .int .i64 0, .int .i64 0, .int .i64 (-1), .int .i64 (-1), .string ⟨#[]⟩] 27 (0, 0)) from by rw [hw]; exact (blk_put BX.out 4 _ rfl)); clear BR HS HB HF BX; have BR := n0_; have HS := n1_; have HB := n2_; have HF := n3_; have BX := n4_; clear n0_ n1_ n2_ n3_ n4_; clear hw; obtain ⟨h0_, h1_, h2_, h3_, h4_, h5_, f0_, f1_, f2_, f3_, f4_, f5_⟩ := impl_ParseInstr.bx BX.out) | ((with_reducible refine gate_dst (N := 39) rfl ?_); refine Kd.R_lit (impl_ParseInstr.ptr gX) (w0 := w) w.heap.size 89 ?hg39 (N := 39) ?hd39 (xs := [1, 2, 3, 4]) (inner := [.pointer (some ⟨gX, 1, none⟩), .pointer (some ⟨gX, 2, none⟩), .pointer (some ⟨gX, 3, none⟩), .pointer (some ⟨gX, 4, none⟩)]) (ok := fun _ => True) (okp := fun _ => True) ?hr39 ?hp39 (fun _ hk => hk) trivial HB.out (below_size HB.out) (by simp) ?_; (case hd39 => rfl); (case hg39 => rfl); (case hr39 => first | (go_simp; done) | (go_simp; rfl)); (case hp39 => exact Kd.reps_scalar [1, 2, 3, 4]); intro v39 w9 ho hb hg_ hnew_; have hfe := hg_.block gX (blk_lt BX.out) (by simp); have hre := hg_.block gR (blk_lt BR.out) (by simp); have hse := Kd.R_grown HS.out hg_ (fun _ _ => by simp); obtain ⟨fs, hfs⟩ : ∃ y_ : List Nat, y_ = [1, 2, 3, 4] := ⟨_, rfl⟩; rw [← hfs] at ho; have HFS := Aside0.mk hfs; obtain ⟨AF, cF, eF⟩ := Kd.R_slice ho; subst eF; have n0_ := Aside0.mk (hfe.trans BX.out); have n1_ := Aside0.mk (hre.trans BR.out); have n2_ := Aside0.mk (hse); have n3_ := Aside0.mk (hb); have n4_ := Aside0.mk (ho); clear BX BR HS HB; have BX := n0_; have BR := n1_; have HS := n2_; have HB := n3_; have HF := n4_; clear n0_ n1_ n2_ n3_ n4_; clear hb ho hg_ hnew_ hfe hre hse hfs; obtain ⟨h0_, h1_, h2_, h3_, h4_, h5_, f0_, f1_, f2_, f3_, f4_, f5_⟩ := impl_ParseInstr.bx BX.out) | ((with_reducible refine gate_dst (N := 46) rfl ?_); refine Kd.R_lit (impl_ParseInstr.ptr gX) (w0 := w) w.heap.size 89 ?hg46 (N := 46) ?hd46 (xs := [1, 3, 4]) (inner := [.pointer (some ⟨gX, 1, none⟩), .pointer (some ⟨gX, 3, none⟩), .pointer (some ⟨gX, 4, none⟩)]) (ok := fun _ => True) (okp := fun _ => True) ?hr46 ?hp46 (fun _ hk => hk) trivial HB.out (below_size HB.out) (by simp) ?_; (case hd46 => rfl); (case hg46 => rfl); (case hr46 => first | (go_simp; done) | (go_simp; rfl)); (case hp46 => exact Kd.reps_scalar [1, 3, 4]); intro v46 w10 ho hb hg_ hnew_; have hfe := hg_.block gX (blk_lt BX.out) (by simp); have hre := hg_.block gR (blk_lt BR.out) (by simp); have hse := Kd.R_grown HS.out hg_ (fun _ _ => by simp); obtain ⟨fs, hfs⟩ : ∃ y_ : List Nat, y_ = [1, 3, 4] := ⟨_, rfl⟩; rw [← hfs] at ho; have HFS := Aside0.mk hfs; obtain ⟨AF, cF, eF⟩ := Kd.R_slice ho; subst eF; have n0_ := Aside0.mk (hfe.trans BX.out); have n1_ := Aside0.mk (hre.trans BR.out); have n2_ := Aside0.mk (hse); have n3_ := Aside0.mk (hb); have n4_ := Aside0.mk (ho); clear BX BR HS HB; have BX := n0_; have BR := n1_; have HS := n2_; have HB := n3_; have HF := n4_; clear n0_ n1_ n2_ n3_ n4_; clear hb ho hg_ hnew_ hfe hre hse hfs; obtain ⟨h0_, h1_, h2_, h3_, h4_, h5_, f0_, f1_, f2_, f3_, f4_, f5_⟩ := impl_ParseInstr.bx BX.out))
    rotate_left
    focus
      have q6 : (op == 6) = false := beq_eq_false_iff_ne.mpr c6
      have q7 : (op == 7) = false := beq_eq_false_iff_ne.mpr c7
      have HZ := Aside0.mk (show impl_ParseInstr.fs op = [1, 2, 3] ∧ impl_ParseInstr.z op = 0 from ⟨by unfold impl_ParseInstr.fs; rw [if_neg c6, if_neg c7], by unfold impl_ParseInstr.z; rw [if_neg c6, if_neg c7]⟩)
      clear c6 c7
      go_wp2_with (first | ((with_reducible refine gate_dst (N := 24) rfl ?_); refine Kd.R_lit (impl_ParseInstr.ptr gX) (w0 := w) w.heap.size 89 ?hg24 (N := 24) ?hd24 (xs := [1, 2, 3]) (inner := [.pointer (some ⟨gX, 1, none⟩), .pointer (some ⟨gX, 2, none⟩), .pointer (some ⟨gX, 3, none⟩)]) (ok := fun _ => True) (okp := fun _ => True) ?hr24 ?hp24 (fun _ hk => hk) trivial HB.out (below_size HB.out) (by simp) ?_; (case hd24 => rfl); (case hg24 => rfl); (case hr24 => first | (go_simp; done) | (go_simp; rfl)); (case hp24 => exact Kd.reps_scalar [1, 2, 3]); intro v24 w6 ho hb hg_ hnew_; have hfe := hg_.block gX (blk_lt BX.out) (by simp); have hre := hg_.block gR (blk_lt BR.out) (by simp); have hse := Kd.R_grown HS.out hg_ (fun _ _ => by simp); obtain ⟨fs, hfs⟩ : ∃ y_ : List Nat, y_ = [1, 2, 3] := ⟨_, rfl⟩; rw [← hfs] at ho; have HFS := Aside0.mk hfs; obtain ⟨AF, cF, eF⟩ := Kd.R_slice ho; subst eF; have n0_ := Aside0.mk (hfe.trans BX.out); have n1_ := Aside0.mk (hre.trans BR.out); have n2_ := Aside0.mk (hse); have n3_ := Aside0.mk (hb); have n4_ := Aside0.mk (ho); clear BX BR HS HB; have BX := n0_; have BR := n1_; have HS := n2_; have HB := n3_; have HF := n4_; clear n0_ n1_ n2_ n3_ n4_; clear hb ho hg_ hnew_ hfe hre hse hfs; obtain ⟨h0_, h1_, h2_, h3_, h4_, h5_, f0_, f1_, f2_, f3_, f4_, f5_⟩ := impl_ParseInstr.bx BX.out))
    rotate_left
    all_goals
      have HF4 := Aside0.mk (show fs.length ≤ 4 from by rw [HFS.out]; decide)
      clear f0_ f1_ f2_ f3_ f4_ f5_ h0_ h1_ h2_ h3_ h4_ h5_
      go_loopg [7, 9, 10, 11, 50] rest.length (fun kq v7 _ _ _ v50 w' => ∃ (i kk : Nat) (a b c d : Int) (nm : ByteArray), v7 = .int .i64 (kk : Int) ∧ v50 = .int .i64 (i : Int) ∧ Aside0 (i ≤ rest.length ∧ rest.length - i ≤ kq) ∧ Aside0 (kk ≤ fs.length) ∧ Aside0 (impl_ParseInstr.e k a0 op (impl_ParseInstr.l fs (rest.drop i) kk a b c d nm) = some (r1, r2, r3, r4, r5, r6, r7)) ∧ Aside0 (w'.heap[gR]? = some (.cells #[.int .i64 0, .int .i64 0, .int .i64 0, .int .i64 0, .int .i64 0, .string ⟨#[]⟩] 27 (0, 0))) ∧ Aside0 (w'.heap[gX]? = some (.cells #[.int .i64 op, .int .i64 a, .int .i64 b, .int .i64 c, .int .i64 d, .string nm] 27 (0, 0))) ∧ Aside0 (Kd.R Kd.string 9 w' w.heap.size (fun _ => True) (.slice (some ⟨gS, 0, none⟩) ws.length cS) ws) ∧ Aside0 (Kd.R (impl_ParseInstr.ptr gX) 89 w' w.heap.size (fun _ => True) (.slice AF fs.length cF) fs) ∧ Aside0 (Below w.heap.size w w'))
      case atStart => exact ⟨0, 0, 0, 0, _, _, ⟨#[]⟩, rfl, rfl, ⟨by omega, by omega⟩, ⟨Nat.zero_le _⟩, ⟨by have h1 := HL0.out; rw [HZ.out.1, HZ.out.2, ← HFS.out] at h1; exact h1⟩, BR, BX, HS, HF, HB⟩
      case round =>
        clear BR BX HS HF HB
        obtain ⟨i, kk, a, b, c, d, nm, rfl, rfl, HI, HK, HL, BR, BX, HS, HF, HB⟩ := hrel
        by_cases hi : i < rest.length
        · obtain ⟨x, hx⟩ : ∃ x : Int, x = (i : Int) := ⟨_, rfl⟩
          have x0 : 0 ≤ x := by omega
          have x1 : x < (rest.length : Int) := by omega
          have hrd := HRS.out
          obtain ⟨ad, e0, hx0⟩ := impl_ParseInstr.word HS.out LW.out x x0 (by rw [← hrd]; exact x1)
          rw [← hrd] at hx0
          rw [← HA48.out] at e0
          obtain ⟨wd, hwd⟩ : ∃ y, y = rdOf ByteArray.empty rest x := ⟨_, rfl⟩
          have hwe : rest[i] = wd := by
            rw [hwd, hx]
            unfold rdOf
            rw [Int.toNat_natCast, List.getD_eq_getElem?_getD, List.getElem?_eq_getElem hi]
            rfl
          rw [← hwd] at hx0
          have hsub : ∀ y ∈ rest, y ∈ ws := fun y hy => by rw [hrd] at hy; exact List.mem_of_mem_drop hy
          have HWD := Aside0.mk (HWZ.out wd (by rw [← hwe]; exact hsub _ (List.getElem_mem hi)))
          clear hsub
          have H := HL.out
          rw [List.drop_eq_getElem_cons hi, hwe] at H
          simp only [impl_ParseInstr.l] at H
          have HX := Aside0.mk hx
          have HIL := Aside0.mk hi
          rw [← hx]
          have x1b : decide (x < (rest.length : Int)) = true := decide_eq_true x1
          have x0b := eq_true x0
          have x1c := eq_true x1
          have HFA := Aside0.mk HFS.out
          clear hx hi x0 x1 hrd hwd hwe HL
          cases e0
          obtain ⟨gko, hgko⟩ : ∃ q : Nat, q = gk := ⟨_, rfl⟩
          have HGK := Aside0.mk hgko
          clear hgko
          by_cases hok : ∃ n, Go.Lib.atoiAll wd.data.toList = .ok n
          · obtain ⟨n, hn⟩ := hok
            rw [hn] at H
            have HAT := Aside0.mk hn
            clear hn
            dsimp only at H
            by_cases ck : kk = fs.length
            · rw [if_pos ck] at H
              have H := Option.some.inj (show some (0, 0, 0, 0, 0, (⟨#[]⟩ : ByteArray), false) = some (r1, r2, r3, r4, r5, r6, r7) from H)
              injection H with e1 H
              injection H with e2 H
              injection H with e3 H
              injection H with e4 H
              injection H with e5 H
              injection H with e6 e7
              subst e1 e2 e3 e4 e5 e6 e7
              have ckb : ((kk : Int) == (fs.length : Int)) = true := by rw [ck]; exact beq_self_eq_true _
              clear ck
              go_wp2_with (first | (go_at_call 65; refine (strconv_Atoi.ok wd HWD.out n HAT.out _).mono ?_; rintro e w11 ⟨rfl, hb⟩; have n0_ := Aside0.mk (blk_below BR.out hb); have n1_ := Aside0.mk (blk_below BX.out hb); have n2_ := Aside0.mk (Kd.R_below HS.out hb); have n3_ := Aside0.mk (Kd.R_below HF.out hb); have n4_ := Aside0.mk (below_step HB.out hb); clear BR BX HS HF HB; have BR := n0_; have BX := n1_; have HS := n2_; have HF := n3_; have HB := n4_; clear n0_ n1_ n2_ n3_ n4_; clear hb; obtain ⟨h0_, h1_, h2_, h3_, h4_, h5_, f0_, f1_, f2_, f3_, f4_, f5_⟩ := impl_ParseInstr.bx BX.out; obtain ⟨p0_, p1_, p2_, p3_, p4_, p5_, q0_, q1_, q2_, q3_, q4_, q5_⟩ := impl_ParseInstr.bx BR.out) | ((with_reducible refine gate_store (t := 27) (p := 2) rfl ?_); refine store_event (t := 27) (p := 2) (v := .tmp 86) (w1 := ((((((w11.setCell ⟨gR, 0, none⟩ (.int .i64 0)).setCell ⟨gR, 1, none⟩ (.int .i64 0)).setCell ⟨gR, 2, none⟩ (.int .i64 0)).setCell ⟨gR, 3, none⟩ (.int .i64 0)).setCell ⟨gR, 4, none⟩ (.int .i64 0)).setCell ⟨gR, 5, none⟩ (.string (⟨#[]⟩ : ByteArray)))) ?hgs19 ?hos19 ?hns19 ?hrs19 ?_; (case hos19 => rfl); (case hgs19 => rfl); (case hns19 => rfl); (case hrs19 => first | (go_simp; done) | (go_simp; rfl)); intro w12 hw; have n0_ := Aside0.mk (show w12.heap[gR]? = some (.cells #[.int .i64 0, .int .i64 0, .int .i64 0, .int .i64 0, .int .i64 0, .string (⟨#[]⟩ : ByteArray)] 27 (0, 0)) from by rw [hw]; exact (blk_put (blk_put (blk_put (blk_put (blk_put (blk_put BR.out 0 _ rfl) 1 _ rfl) 2 _ rfl) 3 _ rfl) 4 _ rfl) 5 _ rfl)); have n1_ := Aside0.mk (show Below w.heap.size w w12 from by rw [hw]; exact (below_set (below_set (below_set (below_set (below_set (below_set HB.out GR.out) GR.out) GR.out) GR.out) GR.out) GR.out)); clear BR HB; have BR := n0_; have HB := n1_; clear n0_ n1_; clear hw))
              refine bodyPost_ret (results_ct rfl _ _ gR 27 #[.int .i64 0, .int .i64 0, .int .i64 0, .int .i64 0, .int .i64 0, .string (⟨#[]⟩ : ByteArray)] (0, 0) _ rfl BR.out Tryd.underlying27 rfl (by kernel_rfl)) rfl ?_
              exact ⟨by first | rfl | (simp; done), HB.out⟩
            · have hkl : kk < fs.length := by have := HK.out; omega
              obtain ⟨q, hq⟩ : ∃ q, impl_ParseInstr.put (fs.getD kk 0) n a b c d = q := ⟨_, rfl⟩
              rw [if_neg ck, hq] at H
              have HL := Aside0.mk H
              have hj0 := impl_ParseInstr.fs_at (HFS.out.trans HZ.out.1.symm) kk hkl
              obtain ⟨jj, hjj⟩ : ∃ jj, fs.getD kk 0 = jj := ⟨_, rfl⟩
              rw [hjj] at hq hj0
              have HQ := Aside0.mk hq
              have HJ := Aside0.mk hj0
              have HJJ := Aside0.mk hjj
              have HKL := Aside0.mk hkl
              obtain ⟨gF, cF', eF', _⟩ := Kd.R_form HF.out (by omega)
              cases eF'
              have ckb : ((kk : Int) == (fs.length : Int)) = false := beq_eq_false_iff_ne.mpr (by omega)
              have k0b := eq_true (show (0 : Int) ≤ (kk : Int) from by omega)
              have k1b := eq_true (show (kk : Int) < (fs.length : Int) from by omega)
              have k2b := eq_true hkl
              have ek : wrap64 ((kk : Int) + 1) = ((kk + 1 : Nat) : Int) := by have h2 := HF4.out; unfold wrap64; omega
              have EK := Aside0.mk ek
              clear ck hkl H hq hj0 hjj ek
              go_wp2_with (first | (go_at_call 65; refine (strconv_Atoi.ok wd HWD.out n HAT.out _).mono ?_; rintro e w11 ⟨rfl, hb⟩; have n0_ := Aside0.mk (blk_below BR.out hb); have n1_ := Aside0.mk (blk_below BX.out hb); have n2_ := Aside0.mk (Kd.R_below HS.out hb); have n3_ := Aside0.mk (Kd.R_below HF.out hb); have n4_ := Aside0.mk (below_step HB.out hb); clear BR BX HS HF HB; have BR := n0_; have BX := n1_; have HS := n2_; have HF := n3_; have HB := n4_; clear n0_ n1_ n2_ n3_ n4_; clear hb; obtain ⟨h0_, h1_, h2_, h3_, h4_, h5_, f0_, f1_, f2_, f3_, f4_, f5_⟩ := impl_ParseInstr.bx BX.out; have hpc := impl_ParseInstr.ptr_at HF.out kk HKL.out HJJ.out; obtain ⟨⟨xj, hcj⟩, hfj⟩ := impl_ParseInstr.cellj BX.out HJ.out) | ((with_reducible refine gate_store (t := 3) (p := 64) rfl ?_); refine store_event (t := 3) (p := 64) (v := .tmp 63) (w1 := (w11.setCell ⟨gX, jj, none⟩ (.int .i64 n))) ?hgs64 ?hos64 ?hns64 ?hrs64 ?_; (case hos64 => rfl); (case hgs64 => rfl); (case hns64 => rfl); (case hrs64 => first | (go_simp; done) | (go_simp; rfl)); intro w12 hw; have n0_ := Aside0.mk (show w12.heap[gR]? = some (.cells #[.int .i64 0, .int .i64 0, .int .i64 0, .int .i64 0, .int .i64 0, .string ⟨#[]⟩] 27 (0, 0)) from by rw [hw]; exact blk_far BR.out NE.out _); have n1_ := Aside0.mk (show Kd.R Kd.string 9 w12 w.heap.size (fun _ => True) (.slice (some ⟨gS, 0, none⟩) ws.length cS) ws from by rw [hw]; exact Kd.R_set HS.out BX.out (by decide) jj _); have n2_ := Aside0.mk (show Kd.R (impl_ParseInstr.ptr gX) 89 w12 w.heap.size (fun _ => True) (.slice (some ⟨gF, 0, none⟩) fs.length cF) fs from by rw [hw]; exact Kd.R_set HF.out BX.out (impl_ParseInstr.ptrE gX) jj _); have n3_ := Aside0.mk (show Below w.heap.size w w12 from by rw [hw]; exact below_set HB.out GX.out); have n4_ := Aside0.mk (show w12.heap[gX]? = some (.cells #[.int .i64 op, .int .i64 q.1, .int .i64 q.2.1, .int .i64 q.2.2.1, .int .i64 q.2.2.2, .string nm] 27 (0, 0)) from by rw [hw]; exact impl_ParseInstr.putj BX.out HJ.out n HQ.out); clear BR HS HF HB BX; have BR := n0_; have HS := n1_; have HF := n2_; have HB := n3_; have BX := n4_; clear n0_ n1_ n2_ n3_ n4_; clear hw))
              have ex : wrap64 (x + 1) = ((i + 1 : Nat) : Int) := by have h1 := HX.out; have h2 := HIL.out; have h3 := HLR.out; have h4 := LM.out; unfold wrap64; omega
              go_roundg (gk - 1)
              case measure => have h1 := HI.out; have h2 := HIL.out; omega
              case rel => exact ⟨i + 1, kk + 1, q.1, q.2.1, q.2.2.1, q.2.2.2, nm, by rw [EK.out], by rw [ex], ⟨by have h1 := HI.out; have h2 := HIL.out; omega⟩, ⟨by have h1 := HKL.out; omega⟩, HL, BR, BX, HS, HF, HB⟩
          · have H2 : impl_ParseInstr.e k a0 op (if nm.toList = [] then impl_ParseInstr.l fs (rest.drop (i + 1)) kk a b c d wd else none) = some (r1, r2, r3, r4, r5, r6, r7) := by
              cases ha : Go.Lib.atoiAll wd.data.toList with
              | ok n => exact absurd ⟨n, ha⟩ hok
              | range => rw [ha] at H; exact H
              | _ => rw [ha] at H; exact H
            have HAT := Aside0.mk (show ∀ n, Go.Lib.atoiAll wd.data.toList ≠ .ok n from fun n hn => hok ⟨n, hn⟩)
            clear H hok
            have H := H2
            clear H2
            by_cases cn : nm.toList = []
            · rw [if_pos cn] at H
              have HL := Aside0.mk H
              have cnb : (nm.toList == ([] : List UInt8)) = true := beq_iff_eq.mpr cn
              clear cn H
              go_wp2_with (first | (go_at_call 65; refine (strconv_Atoi.bad wd HWD.out HAT.out _ (HTAB.out.below HB.out)).mono ?_; rintro e w11 ⟨⟨v_, N_, T_, rfl⟩, hb⟩; have n0_ := Aside0.mk (blk_below BR.out hb); have n1_ := Aside0.mk (blk_below BX.out hb); have n2_ := Aside0.mk (Kd.R_below HS.out hb); have n3_ := Aside0.mk (Kd.R_below HF.out hb); have n4_ := Aside0.mk (below_step HB.out hb); clear BR BX HS HF HB; have BR := n0_; have BX := n1_; have HS := n2_; have HF := n3_; have HB := n4_; clear n0_ n1_ n2_ n3_ n4_; clear hb; obtain ⟨h0_, h1_, h2_, h3_, h4_, h5_, f0_, f1_, f2_, f3_, f4_, f5_⟩ := impl_ParseInstr.bx BX.out) | ((with_reducible refine gate_store (t := 9) (p := 76) rfl ?_); refine store_event (t := 9) (p := 76) (v := .tmp 75) (w1 := (w11.setCell ⟨gX, 5, none⟩ (.string wd))) ?hgs76 ?hos76 ?hns76 ?hrs76 ?_; (case hos76 => rfl); (case hgs76 => rfl); (case hns76 => rfl); (case hrs76 => first | (go_simp; done) | (go_simp; rfl)); intro w12 hw; have n0_ := Aside0.mk (show w12.heap[gR]? = some (.cells #[.int .i64 0, .int .i64 0, .int .i64 0, .int .i64 0, .int .i64 0, .string ⟨#[]⟩] 27 (0, 0)) from by rw [hw]; exact (blk_far BR.out NE.out _)); have n1_ := Aside0.mk (show Kd.R Kd.string 9 w12 w.heap.size (fun _ => True) (.slice (some ⟨gS, 0, none⟩) ws.length cS) ws from by rw [hw]; exact (Kd.R_set HS.out BX.out (by decide) 5 _)); have n2_ := Aside0.mk (show Below w.heap.size w w12 from by rw [hw]; exact (below_set HB.out GX.out)); have n3_ := Aside0.mk (show Kd.R (impl_ParseInstr.ptr gX) 89 w12 w.heap.size (fun _ => True) (.slice AF fs.length cF) fs from by rw [hw]; exact (Kd.R_set HF.out BX.out (impl_ParseInstr.ptrE gX) 5 _)); have n4_ := Aside0.mk (show w12.heap[gX]? = some (.cells #[.int .i64 op, .int .i64 a, .int .i64 b, .int .i64 c, .int .i64 d, .string wd] 27 (0, 0)) from by rw [hw]; exact (blk_put BX.out 5 _ rfl)); clear BR HS HB HF BX; have BR := n0_; have HS := n1_; have HB := n2_; have HF := n3_; have BX := n4_; clear n0_ n1_ n2_ n3_ n4_; clear hw; obtain ⟨h0_, h1_, h2_, h3_, h4_, h5_, f0_, f1_, f2_, f3_, f4_, f5_⟩ := impl_ParseInstr.bx BX.out))
              have ex : wrap64 (x + 1) = ((i + 1 : Nat) : Int) := by have h1 := HX.out; have h2 := HIL.out; have h3 := HLR.out; have h4 := LM.out; unfold wrap64; omega
              go_roundg (gk - 1)
              case measure => have h1 := HI.out; have h2 := HIL.out; omega
              case rel => exact ⟨i + 1, kk, a, b, c, d, wd, rfl, by rw [ex], ⟨by have h1 := HI.out; have h2 := HIL.out; omega⟩, HK, HL, BR, BX, HS, HF, HB⟩
            · rw [if_neg cn] at H
              have cnb : (nm.toList == ([] : List UInt8)) = false := beq_eq_false_iff_ne.mpr cn
              clear cn
              have H := Option.some.inj (show some (0, 0, 0, 0, 0, (⟨#[]⟩ : ByteArray), false) = some (r1, r2, r3, r4, r5, r6, r7) from H)
              injection H with e1 H
              injection H with e2 H
              injection H with e3 H
              injection H with e4 H
              injection H with e5 H
              injection H with e6 e7
              subst e1 e2 e3 e4 e5 e6 e7
              go_wp2_with (first | (go_at_call 65; refine (strconv_Atoi.bad wd HWD.out HAT.out _ (HTAB.out.below HB.out)).mono ?_; rintro e w11 ⟨⟨v_, N_, T_, rfl⟩, hb⟩; have n0_ := Aside0.mk (blk_below BR.out hb); have n1_ := Aside0.mk (blk_below BX.out hb); have n2_ := Aside0.mk (Kd.R_below HS.out hb); have n3_ := Aside0.mk (Kd.R_below HF.out hb); have n4_ := Aside0.mk (below_step HB.out hb); clear BR BX HS HF HB; have BR := n0_; have BX := n1_; have HS := n2_; have HF := n3_; have HB := n4_; clear n0_ n1_ n2_ n3_ n4_; clear hb; obtain ⟨h0_, h1_, h2_, h3_, h4_, h5_, f0_, f1_, f2_, f3_, f4_, f5_⟩ := impl_ParseInstr.bx BX.out; obtain ⟨p0_, p1_, p2_, p3_, p4_, p5_, q0_, q1_, q2_, q3_, q4_, q5_⟩ := impl_ParseInstr.bx BR.out) | ((with_reducible refine gate_store (t := 27) (p := 2) rfl ?_); refine store_event (t := 27) (p := 2) (v := .tmp 86) (w1 := ((((((w11.setCell ⟨gR, 0, none⟩ (.int .i64 0)).setCell ⟨gR, 1, none⟩ (.int .i64 0)).setCell ⟨gR, 2, none⟩ (.int .i64 0)).setCell ⟨gR, 3, none⟩ (.int .i64 0)).setCell ⟨gR, 4, none⟩ (.int .i64 0)).setCell ⟨gR, 5, none⟩ (.string (⟨#[]⟩ : ByteArray)))) ?hgs19 ?hos19 ?hns19 ?hrs19 ?_; (case hos19 => rfl); (case hgs19 => rfl); (case hns19 => rfl); (case hrs19 => first | (go_simp; done) | (go_simp; rfl)); intro w12 hw; have n0_ := Aside0.mk (show w12.heap[gR]? = some (.cells #[.int .i64 0, .int .i64 0, .int .i64 0, .int .i64 0, .int .i64 0, .string (⟨#[]⟩ : ByteArray)] 27 (0, 0)) from by rw [hw]; exact (blk_put (blk_put (blk_put (blk_put (blk_put (blk_put BR.out 0 _ rfl) 1 _ rfl) 2 _ rfl) 3 _ rfl) 4 _ rfl) 5 _ rfl)); have n1_ := Aside0.mk (show Below w.heap.size w w12 from by rw [hw]; exact (below_set (below_set (below_set (below_set (below_set (below_set HB.out GR.out) GR.out) GR.out) GR.out) GR.out) GR.out)); clear BR HB; have BR := n0_; have HB := n1_; clear n0_ n1_; clear hw))
              refine bodyPost_ret (results_ct rfl _ _ gR 27 #[.int .i64 0, .int .i64 0, .int .i64 0, .int .i64 0, .int .i64 0, .string (⟨#[]⟩ : ByteArray)] (0, 0) _ rfl BR.out Tryd.underlying27 rfl (by kernel_rfl)) rfl ?_
              exact ⟨by first | rfl | (simp; done), HB.out⟩
        · have hie : i = rest.length := by have := HI.out.1; omega
          subst hie
          have H := HL.out
          rw [List.drop_length] at H
          simp only [impl_ParseInstr.l, impl_ParseInstr.e] at H
          obtain ⟨t, At, H⟩ := Option.bind_eq_some_iff.mp H
          have AT := Aside0.mk At
          clear At HL
          have x1b : decide ((rest.length : Int) < (rest.length : Int)) = false := decide_eq_false (by omega)
          obtain ⟨h0_, h1_, h2_, h3_, h4_, h5_, f0_, f1_, f2_, f3_, f4_, f5_⟩ := impl_ParseInstr.bx BX.out
          by_cases ct : t.toList = a0.toList
          · rw [if_pos ct] at H
            have ctb : (t.toList == a0.toList) = true := beq_iff_eq.mpr ct
            have ctc : (t.toList != a0.toList) = false := bne_eq_false_iff_eq.mpr ct
            clear ct
            by_cases ce : a0.toList = []
            · rw [if_pos ce] at H
              have ceb : (a0.toList == ([] : List UInt8)) = true := beq_iff_eq.mpr ce
              clear ce
              have H := Option.some.inj (show some (0, 0, 0, 0, 0, (⟨#[]⟩ : ByteArray), false) = some (r1, r2, r3, r4, r5, r6, r7) from H)
              injection H with e1 H
              injection H with e2 H
              injection H with e3 H
              injection H with e4 H
              injection H with e5 H
              injection H with e6 e7
              subst e1 e2 e3 e4 e5 e6 e7
              go_wp2_with (first | (go_at_call 24; (with_reducible refine (impl_FormatInstr.calls k op a b c d nm t _ AT.out ?tabF).mono ?_); (case tabF => exact (HTAB.out).below HB.out); rintro e w11 ⟨rfl, hb⟩; have n0_ := Aside0.mk (blk_below BR.out hb); have n1_ := Aside0.mk (blk_below BX.out hb); have n2_ := Aside0.mk (Kd.R_below HS.out hb); have n3_ := Aside0.mk (Kd.R_below HF.out hb); have n4_ := Aside0.mk (below_step HB.out hb); clear BR BX HS HF HB; have BR := n0_; have BX := n1_; have HS := n2_; have HF := n3_; have HB := n4_; clear n0_ n1_ n2_ n3_ n4_; clear hb; obtain ⟨h0_, h1_, h2_, h3_, h4_, h5_, f0_, f1_, f2_, f3_, f4_, f5_⟩ := impl_ParseInstr.bx BX.out; obtain ⟨p0_, p1_, p2_, p3_, p4_, p5_, q0_, q1_, q2_, q3_, q4_, q5_⟩ := impl_ParseInstr.bx BR.out) | ((with_reducible refine gate_store (t := 27) (p := 2) rfl ?_); refine store_event (t := 27) (p := 2) (v := .tmp 96) (w1 := ((((((w11.setCell ⟨gR, 0, none⟩ (.int .i64 0)).setCell ⟨gR, 1, none⟩ (.int .i64 0)).setCell ⟨gR, 2, none⟩ (.int .i64 0)).setCell ⟨gR, 3, none⟩ (.int .i64 0)).setCell ⟨gR, 4, none⟩ (.int .i64 0)).setCell ⟨gR, 5, none⟩ (.string (⟨#[]⟩ : ByteArray)))) ?hgs19 ?hos19 ?hns19 ?hrs19 ?_; (case hos19 => rfl); (case hgs19 => rfl); (case hns19 => rfl); (case hrs19 => first | (go_simp; done) | (go_simp; rfl)); intro w12 hw; have n0_ := Aside0.mk (show w12.heap[gR]? = some (.cells #[.int .i64 0, .int .i64 0, .int .i64 0, .int .i64 0, .int .i64 0, .string (⟨#[]⟩ : ByteArray)] 27 (0, 0)) from by rw [hw]; exact (blk_put (blk_put (blk_put (blk_put (blk_put (blk_put BR.out 0 _ rfl) 1 _ rfl) 2 _ rfl) 3 _ rfl) 4 _ rfl) 5 _ rfl)); have n1_ := Aside0.mk (show Below w.heap.size w w12 from by rw [hw]; exact (below_set (below_set (below_set (below_set (below_set (below_set HB.out GR.out) GR.out) GR.out) GR.out) GR.out) GR.out)); clear BR HB; have BR := n0_; have HB := n1_; clear n0_ n1_; clear hw))
              refine bodyPost_ret (results_ct rfl _ _ gR 27 #[.int .i64 0, .int .i64 0, .int .i64 0, .int .i64 0, .int .i64 0, .string (⟨#[]⟩ : ByteArray)] (0, 0) _ rfl BR.out Tryd.underlying27 rfl (by kernel_rfl)) rfl ?_
              exact ⟨by first | rfl | (simp; done), HB.out⟩
            · rw [if_neg ce] at H
              have ceb : (a0.toList == ([] : List UInt8)) = false := beq_eq_false_iff_ne.mpr ce
              clear ce
              have H := Option.some.inj (show some (op, a, b, c, d, nm, true) = some (r1, r2, r3, r4, r5, r6, r7) from H)
              injection H with e1 H
              injection H with e2 H
              injection H with e3 H
              injection H with e4 H
              injection H with e5 H
              injection H with e6 e7
              subst e1 e2 e3 e4 e5 e6 e7
              go_wp2_with (first | (go_at_call 24; (with_reducible refine (impl_FormatInstr.calls k op a b c d nm t _ AT.out ?tabF).mono ?_); (case tabF => exact (HTAB.out).below HB.out); rintro e w11 ⟨rfl, hb⟩; have n0_ := Aside0.mk (blk_below BR.out hb); have n1_ := Aside0.mk (blk_below BX.out hb); have n2_ := Aside0.mk (Kd.R_below HS.out hb); have n3_ := Aside0.mk (Kd.R_below HF.out hb); have n4_ := Aside0.mk (below_step HB.out hb); clear BR BX HS HF HB; have BR := n0_; have BX := n1_; have HS := n2_; have HF := n3_; have HB := n4_; clear n0_ n1_ n2_ n3_ n4_; clear hb; obtain ⟨h0_, h1_, h2_, h3_, h4_, h5_, f0_, f1_, f2_, f3_, f4_, f5_⟩ := impl_ParseInstr.bx BX.out; obtain ⟨p0_, p1_, p2_, p3_, p4_, p5_, q0_, q1_, q2_, q3_, q4_, q5_⟩ := impl_ParseInstr.bx BR.out) | ((with_reducible refine gate_store (t := 27) (p := 2) rfl ?_); refine store_event (t := 27) (p := 2) (v := .tmp 97) (w1 := ((((((w11.setCell ⟨gR, 0, none⟩ (.int .i64 op)).setCell ⟨gR, 1, none⟩ (.int .i64 a)).setCell ⟨gR, 2, none⟩ (.int .i64 b)).setCell ⟨gR, 3, none⟩ (.int .i64 c)).setCell ⟨gR, 4, none⟩ (.int .i64 d)).setCell ⟨gR, 5, none⟩ (.string nm))) ?hgs97 ?hos97 ?hns97 ?hrs97 ?_; (case hos97 => rfl); (case hgs97 => rfl); (case hns97 => rfl); (case hrs97 => first | (go_simp; done) | (go_simp; rfl)); intro w12 hw; have n0_ := Aside0.mk (show w12.heap[gR]? = some (.cells #[.int .i64 op, .int .i64 a, .int .i64 b, .int .i64 c, .int .i64 d, .string nm] 27 (0, 0)) from by rw [hw]; exact (blk_put (blk_put (blk_put (blk_put (blk_put (blk_put BR.out 0 _ rfl) 1 _ rfl) 2 _ rfl) 3 _ rfl) 4 _ rfl) 5 _ rfl)); have n1_ := Aside0.mk (show Below w.heap.size w w12 from by rw [hw]; exact (below_set (below_set (below_set (below_set (below_set (below_set HB.out GR.out) GR.out) GR.out) GR.out) GR.out) GR.out)); clear BR HB; have BR := n0_; have HB := n1_; clear n0_ n1_; clear hw))
              refine bodyPost_ret (results_ct rfl _ _ gR 27 #[.int .i64 op, .int .i64 a, .int .i64 b, .int .i64 c, .int .i64 d, .string nm] (0, 0) _ rfl BR.out Tryd.underlying27 rfl (by kernel_rfl)) rfl ?_
              exact ⟨by first | rfl | (simp; done), HB.out⟩
          · rw [if_neg ct] at H
            have ctb : (t.toList == a0.toList) = false := beq_eq_false_iff_ne.mpr ct
            have ctc : (t.toList != a0.toList) = true := bne_iff_ne.mpr ct
            clear ct
            have H := Option.some.inj (show some (0, 0, 0, 0, 0, (⟨#[]⟩ : ByteArray), false) = some (r1, r2, r3, r4, r5, r6, r7) from H)
            injection H with e1 H
            injection H with e2 H
            injection H with e3 H
            injection H with e4 H
            injection H with e5 H
            injection H with e6 e7
            subst e1 e2 e3 e4 e5 e6 e7
            go_wp2_with (first | (go_at_call 24; (with_reducible refine (impl_FormatInstr.calls k op a b c d nm t _ AT.out ?tabF).mono ?_); (case tabF => exact (HTAB.out).below HB.out); rintro e w11 ⟨rfl, hb⟩; have n0_ := Aside0.mk (blk_below BR.out hb); have n1_ := Aside0.mk (blk_below BX.out hb); have n2_ := Aside0.mk (Kd.R_below HS.out hb); have n3_ := Aside0.mk (Kd.R_below HF.out hb); have n4_ := Aside0.mk (below_step HB.out hb); clear BR BX HS HF HB; have BR := n0_; have BX := n1_; have HS := n2_; have HF := n3_; have HB := n4_; clear n0_ n1_ n2_ n3_ n4_; clear hb; obtain ⟨h0_, h1_, h2_, h3_, h4_, h5_, f0_, f1_, f2_, f3_, f4_, f5_⟩ := impl_ParseInstr.bx BX.out; obtain ⟨p0_, p1_, p2_, p3_, p4_, p5_, q0_, q1_, q2_, q3_, q4_, q5_⟩ := impl_ParseInstr.bx BR.out) | ((with_reducible refine gate_store (t := 27) (p := 2) rfl ?_); refine store_event (t := 27) (p := 2) (v := .tmp 96) (w1 := ((((((w11.setCell ⟨gR, 0, none⟩ (.int .i64 0)).setCell ⟨gR, 1, none⟩ (.int .i64 0)).setCell ⟨gR, 2, none⟩ (.int .i64 0)).setCell ⟨gR, 3, none⟩ (.int .i64 0)).setCell ⟨gR, 4, none⟩ (.int .i64 0)).setCell ⟨gR, 5, none⟩ (.string (⟨#[]⟩ : ByteArray)))) ?hgs19 ?hos19 ?hns19 ?hrs19 ?_; (case hos19 => rfl); (case hgs19 => rfl); (case hns19 => rfl); (case hrs19 => first | (go_simp; done) | (go_simp; rfl)); intro w12 hw; have n0_ := Aside0.mk (show w12.heap[gR]? = some (.cells #[.int .i64 0, .int .i64 0, .int .i64 0, .int .i64 0, .int .i64 0, .string (⟨#[]⟩ : ByteArray)] 27 (0, 0)) from by rw [hw]; exact (blk_put (blk_put (blk_put (blk_put (blk_put (blk_put BR.out 0 _ rfl) 1 _ rfl) 2 _ rfl) 3 _ rfl) 4 _ rfl) 5 _ rfl)); have n1_ := Aside0.mk (show Below w.heap.size w w12 from by rw [hw]; exact (below_set (below_set (below_set (below_set (below_set (below_set HB.out GR.out) GR.out) GR.out) GR.out) GR.out) GR.out)); clear BR HB; have BR := n0_; have HB := n1_; clear n0_ n1_; clear hw))
            refine bodyPost_ret (results_ct rfl _ _ gR 27 #[.int .i64 0, .int .i64 0, .int .i64 0, .int .i64 0, .int .i64 0, .string (⟨#[]⟩ : ByteArray)] (0, 0) _ rfl BR.out Tryd.underlying27 rfl (by kernel_rfl)) rfl ?_
            exact ⟨by first | rfl | (simp; done), HB.out⟩
  · rw [if_neg c] at h
    exact absurd h (by simp)
theorem impl_ParseInstr.mono : ∀ a0 k, LeO (impl_ParseInstr.f k a0) (impl_ParseInstr.f (k + 1) a0) := by
  intro a0 k
  unfold impl_ParseInstr.f
  refine LeO.bind (LeO.refl _) (fun ws => LeO.ite (LeO.bind (slices_Index_string_string.mono _ _ _) (fun j => ?_)) (LeO.none _))
  unfold impl_ParseInstr.e
  split
  · exact LeO.refl _
  · exact LeO.bind (impl_FormatInstr.mono _ _ _ _ _ _ _) (fun _ => LeO.refl _)


/-! ### laws_eqInstr: function 37 -/
def laws_eqInstr.f (a0_0 : Int) (a0_1 : Int) (a0_2 : Int) (a0_3 : Int) (a0_4 : Int) (a0_5 : ByteArray) (a1_0 : Int) (a1_1 : Int) (a1_2 : Int) (a1_3 : Int) (a1_4 : Int) (a1_5 : ByteArray) : Option (Bool) := if a0_0 = a1_0 then (if a0_1 = a1_1 then (if a0_2 = a1_2 then (if a0_3 = a1_3 then (if a0_4 = a1_4 then (if a0_5.toList = a1_5.toList then (some true) else (some false)) else (some false)) else (some false)) else (some false)) else (some false)) else (some false)
set_option maxHeartbeats 8000000 in
set_option maxRecDepth 100000 in
theorem laws_eqInstr.calls (a0_0 : Int) (a0_1 : Int) (a0_2 : Int) (a0_3 : Int) (a0_4 : Int) (a0_5 : ByteArray) (a1_0 : Int) (a1_1 : Int) (a1_2 : Int) (a1_3 : Int) (a1_4 : Int) (a1_5 : ByteArray) (r : Bool) (w : World) (h : laws_eqInstr.f a0_0 a0_1 a0_2 a0_3 a0_4 a0_5 a1_0 a1_1 a1_2 a1_3 a1_4 a1_5 = some r) :
    Calls Tryd.prog 37 #[.agg #[.int .i64 a0_0, .int .i64 a0_1, .int .i64 a0_2, .int .i64 a0_3, .int .i64 a0_4, .string a0_5], .agg #[.int .i64 a1_0, .int .i64 a1_1, .int .i64 a1_2, .int .i64 a1_3, .int .i64 a1_4, .string a1_5]] w fun e w' => e = .returned (.bool r) ∧ Below w.heap.size w w' := by
  have hu27 := Tryd.underlying27
  have HB := Aside0.mk (Below.refl w.heap.size w)
  have H : (if a0_0 = a1_0 then (if a0_1 = a1_1 then (if a0_2 = a1_2 then (if a0_3 = a1_3 then (if a0_4 = a1_4 then (if a0_5.toList = a1_5.toList then (some true) else (some false)) else (some false)) else (some false)) else (some false)) else (some false)) else (some false)) = some r := h
  clear h
  by_cases c3 : a0_0 = a1_0
  · rw [if_pos c3] at H
    have c3b0 : (a0_0 == a1_0) = true := beq_iff_eq.mpr c3
    have c3b1 : (a0_0 != a1_0) = false := bne_eq_false_iff_eq.mpr c3
    clear c3
    by_cases c4 : a0_1 = a1_1
    · rw [if_pos c4] at H
      have c4b0 : (a0_1 == a1_1) = true := beq_iff_eq.mpr c4
      have c4b1 : (a0_1 != a1_1) = false := bne_eq_false_iff_eq.mpr c4
      clear c4
      by_cases c5 : a0_2 = a1_2
      · rw [if_pos c5] at H
        have c5b0 : (a0_2 == a1_2) = true := beq_iff_eq.mpr c5
        have c5b1 : (a0_2 != a1_2) = false := bne_eq_false_iff_eq.mpr c5
        clear c5
        by_cases c6 : a0_3 = a1_3
        · rw [if_pos c6] at H
          have c6b0 : (a0_3 == a1_3) = true := beq_iff_eq.mpr c6
          have c6b1 : (a0_3 != a1_3) = false := bne_eq_false_iff_eq.mpr c6
          clear c6
          by_cases c7 : a0_4 = a1_4
          · rw [if_pos c7] at H
            have c7b0 : (a0_4 == a1_4) = true := beq_iff_eq.mpr c7
            have c7b1 : (a0_4 != a1_4) = false := bne_eq_false_iff_eq.mpr c7
            clear c7
            by_cases c8 : a0_5.toList = a1_5.toList
            · rw [if_pos c8] at H
              have c8b0 : (a0_5.toList == a1_5.toList) = true := beq_iff_eq.mpr c8
              have c8b1 : (a0_5.toList != a1_5.toList) = false := bne_eq_false_iff_eq.mpr c8
              clear c8
              obtain rfl := Option.some.inj H
              go_enter Tryd.func37, Tryd.ntmps37
              go_wp2_with (first | ((with_reducible refine gate_dst (N := 2) rfl ?_); refine box_event ?hg (N := 2) ?hd (cs := #[.int .i64 a0_0, .int .i64 a0_1, .int .i64 a0_2, .int .i64 a0_3, .int .i64 a0_4, .string a0_5]) (t := 27) ?hr ?_; (case hd => rfl); (case hg => rfl); (case hr => first | (go_simp; done) | (go_simp; rfl)); intro gb218 hg w9 hbox hb; have n0_ := Aside0.mk (below_step (by repeat (first | (with_reducible first | exact HB.out | apply below_alloc | apply pw_below_drewN | apply below_drew1) | exact HB.out)) hb); have n1_ := Aside0.mk (hbox); have n2_ := Aside0.mk ((by rw [hg]; exact (below_size (by repeat (first | (with_reducible first | exact HB.out | apply below_alloc | apply pw_below_drewN | apply below_drew1) | exact HB.out))) : w.heap.size ≤ gb218)); have n3_ := Aside0.mk ((by rw [hg]; exact (below_size (by repeat (first | (with_reducible first | exact HB.out | apply below_alloc | apply pw_below_drewN | apply below_drew1) | exact HB.out))) : w.heap.size ≤ gb218)); clear HB; have HB := n0_; have BK218 := n1_; have GW218 := n2_; have GE218 := n3_; clear n0_ n1_ n2_ n3_; clear hb hbox hg) | ((with_reducible refine gate_dst (N := 3) rfl ?_); refine box_event ?hg (N := 3) ?hd (cs := #[.int .i64 a1_0, .int .i64 a1_1, .int .i64 a1_2, .int .i64 a1_3, .int .i64 a1_4, .string a1_5]) (t := 27) ?hr ?_; (case hd => rfl); (case hg => rfl); (case hr => first | (go_simp; done) | (go_simp; rfl)); intro gb219 hg w10 hbox hb; have n0_ := Aside0.mk (blk_below (g := gb218) (o := .cells #[.int .i64 a0_0, .int .i64 a0_1, .int .i64 a0_2, .int .i64 a0_3, .int .i64 a0_4, .string a0_5] 27 (0, 0)) (by (with_reducible repeat (first | refine blk_drewN ?_ _ | refine blk_drew ?_ | refine blk_alloc ?_ _)); exact BK218.out) hb); have n1_ := Aside0.mk (below_step (by repeat (first | (with_reducible first | exact HB.out | apply below_alloc | apply pw_below_drewN | apply below_drew1 | refine below_set ?_ GE218.out) | exact HB.out)) hb); have n2_ := Aside0.mk (hbox); have n3_ := Aside0.mk ((by rw [hg]; exact (below_size (by repeat (first | (with_reducible first | exact HB.out | apply below_alloc | apply pw_below_drewN | apply below_drew1 | refine below_set ?_ GE218.out) | exact HB.out))) : w.heap.size ≤ gb219)); have n4_ := Aside0.mk ((by rw [hg]; exact (below_size (by repeat (first | (with_reducible first | exact HB.out | apply below_alloc | apply pw_below_drewN | apply below_drew1 | refine below_set ?_ GE218.out) | exact HB.out))) : w.heap.size ≤ gb219)); have n5_ := Aside0.mk ((by rw [hg]; exact Nat.ne_of_lt (blk_lt (g := gb218) (o := .cells #[.int .i64 a0_0, .int .i64 a0_1, .int .i64 a0_2, .int .i64 a0_3, .int .i64 a0_4, .string a0_5] 27 (0, 0)) (by (with_reducible repeat (first | refine blk_drewN ?_ _ | refine blk_drew ?_ | refine blk_alloc ?_ _)); exact BK218.out)) : gb218 ≠ gb219)); have n6_ := Aside0.mk ((by rw [hg]; exact Nat.ne_of_gt (blk_lt (g := gb218) (o := .cells #[.int .i64 a0_0, .int .i64 a0_1, .int .i64 a0_2, .int .i64 a0_3, .int .i64 a0_4, .string a0_5] 27 (0, 0)) (by (with_reducible repeat (first | refine blk_drewN ?_ _ | refine blk_drew ?_ | refine blk_alloc ?_ _)); exact BK218.out)) : gb219 ≠ gb218)); clear BK218; clear HB; have BK218 := n0_; have HB := n1_; have BK219 := n2_; have GW219 := n3_; have GE219 := n4_; have NB218_219 := n5_; have NB219_218 := n6_; clear n0_ n1_ n2_ n3_ n4_ n5_ n6_; clear hb hbox hg; have hnb11 := NB218_219.out; have hnc11 := NB219_218.out; have hcz12_0 : w10.cell? ⟨gb218, 0, none⟩ = some (.int .i64 a0_0) := (blk_cell BK218.out 0).trans rfl; have hcz12_1 : w10.cell? ⟨gb218, 1, none⟩ = some (.int .i64 a0_1) := (blk_cell BK218.out 1).trans rfl; have hcz12_2 : w10.cell? ⟨gb218, 2, none⟩ = some (.int .i64 a0_2) := (blk_cell BK218.out 2).trans rfl; have hcz12_3 : w10.cell? ⟨gb218, 3, none⟩ = some (.int .i64 a0_3) := (blk_cell BK218.out 3).trans rfl; have hcz12_4 : w10.cell? ⟨gb218, 4, none⟩ = some (.int .i64 a0_4) := (blk_cell BK218.out 4).trans rfl; have hcz12_5 : w10.cell? ⟨gb218, 5, none⟩ = some (.string a0_5) := (blk_cell BK218.out 5).trans rfl; have hfz12_0 := blk_frozen BK218.out 0; have hfz12_1 := blk_frozen BK218.out 1; have hfz12_2 := blk_frozen BK218.out 2; have hfz12_3 := blk_frozen BK218.out 3; have hfz12_4 := blk_frozen BK218.out 4; have hfz12_5 := blk_frozen BK218.out 5; have hcz13_0 : w10.cell? ⟨gb219, 0, none⟩ = some (.int .i64 a1_0) := (blk_cell BK219.out 0).trans rfl; have hcz13_1 : w10.cell? ⟨gb219, 1, none⟩ = some (.int .i64 a1_1) := (blk_cell BK219.out 1).trans rfl; have hcz13_2 : w10.cell? ⟨gb219, 2, none⟩ = some (.int .i64 a1_2) := (blk_cell BK219.out 2).trans rfl; have hcz13_3 : w10.cell? ⟨gb219, 3, none⟩ = some (.int .i64 a1_3) := (blk_cell BK219.out 3).trans rfl; have hcz13_4 : w10.cell? ⟨gb219, 4, none⟩ = some (.int .i64 a1_4) := (blk_cell BK219.out 4).trans rfl; have hcz13_5 : w10.cell? ⟨gb219, 5, none⟩ = some (.string a1_5) := (blk_cell BK219.out 5).trans rfl; have hfz13_0 := blk_frozen BK219.out 0; have hfz13_1 := blk_frozen BK219.out 1; have hfz13_2 := blk_frozen BK219.out 2; have hfz13_3 := blk_frozen BK219.out 3; have hfz13_4 := blk_frozen BK219.out 4; have hfz13_5 := blk_frozen BK219.out 5))
              go_ret
              exact ⟨by first | rfl | (simp [errW_none, errW_some] <;> rfl) | (simp [*, errW_none, errW_some] <;> rfl), by repeat (first | (with_reducible first | exact HB.out | apply below_alloc | apply pw_below_drewN | apply below_drew1 | refine below_set ?_ GE218.out | refine below_set ?_ GE219.out) | exact HB.out)⟩
            · rw [if_neg c8] at H
              have c8b0 : (a0_5.toList == a1_5.toList) = false := beq_eq_false_iff_ne.mpr c8
              have c8b1 : (a0_5.toList != a1_5.toList) = true := bne_iff_ne.mpr c8
              obtain rfl := Option.some.inj H
              go_enter Tryd.func37, Tryd.ntmps37
              go_wp2_with (first | ((with_reducible refine gate_dst (N := 2) rfl ?_); refine box_event ?hg (N := 2) ?hd (cs := #[.int .i64 a0_0, .int .i64 a0_1, .int .i64 a0_2, .int .i64 a0_3, .int .i64 a0_4, .string a0_5]) (t := 27) ?hr ?_; (case hd => rfl); (case hg => rfl); (case hr => first | (go_simp; done) | (go_simp; rfl)); intro gb218 hg w14 hbox hb; have n0_ := Aside0.mk (below_step (by repeat (first | (with_reducible first | exact HB.out | apply below_alloc | apply pw_below_drewN | apply below_drew1) | exact HB.out)) hb); have n1_ := Aside0.mk (hbox); have n2_ := Aside0.mk ((by rw [hg]; exact (below_size (by repeat (first | (with_reducible first | exact HB.out | apply below_alloc | apply pw_below_drewN | apply below_drew1) | exact HB.out))) : w.heap.size ≤ gb218)); have n3_ := Aside0.mk ((by rw [hg]; exact (below_size (by repeat (first | (with_reducible first | exact HB.out | apply below_alloc | apply pw_below_drewN | apply below_drew1) | exact HB.out))) : w.heap.size ≤ gb218)); clear HB; have HB := n0_; have BK218 := n1_; have GW218 := n2_; have GE218 := n3_; clear n0_ n1_ n2_ n3_; clear hb hbox hg) | ((with_reducible refine gate_dst (N := 3) rfl ?_); refine box_event ?hg (N := 3) ?hd (cs := #[.int .i64 a1_0, .int .i64 a1_1, .int .i64 a1_2, .int .i64 a1_3, .int .i64 a1_4, .string a1_5]) (t := 27) ?hr ?_; (case hd => rfl); (case hg => rfl); (case hr => first | (go_simp; done) | (go_simp; rfl)); intro gb219 hg w15 hbox hb; have n0_ := Aside0.mk (blk_below (g := gb218) (o := .cells #[.int .i64 a0_0, .int .i64 a0_1, .int .i64 a0_2, .int .i64 a0_3, .int .i64 a0_4, .string a0_5] 27 (0, 0)) (by (with_reducible repeat (first | refine blk_drewN ?_ _ | refine blk_drew ?_ | refine blk_alloc ?_ _)); exact BK218.out) hb); have n1_ := Aside0.mk (below_step (by repeat (first | (with_reducible first | exact HB.out | apply below_alloc | apply pw_below_drewN | apply below_drew1 | refine below_set ?_ GE218.out) | exact HB.out)) hb); have n2_ := Aside0.mk (hbox); have n3_ := Aside0.mk ((by rw [hg]; exact (below_size (by repeat (first | (with_reducible first | exact HB.out | apply below_alloc | apply pw_below_drewN | apply below_drew1 | refine below_set ?_ GE218.out) | exact HB.out))) : w.heap.size ≤ gb219)); have n4_ := Aside0.mk ((by rw [hg]; exact (below_size (by repeat (first | (with_reducible first | exact HB.out | apply below_alloc | apply pw_below_drewN | apply below_drew1 | refine below_set ?_ GE218.out) | exact HB.out))) : w.heap.size ≤ gb219)); have n5_ := Aside0.mk ((by rw [hg]; exact Nat.ne_of_lt (blk_lt (g := gb218) (o := .cells #[.int .i64 a0_0, .int .i64 a0_1, .int .i64 a0_2, .int .i64 a0_3, .int .i64 a0_4, .string a0_5] 27 (0, 0)) (by (with_reducible repeat (first | refine blk_drewN ?_ _ | refine blk_drew ?_ | refine blk_alloc ?_ _)); exact BK218.out)) : gb218 ≠ gb219)); have n6_ := Aside0.mk ((by rw [hg]; exact Nat.ne_of_gt (blk_lt (g := gb218) (o := .cells #[.int .i64 a0_0, .int .i64 a0_1, .int .i64 a0_2, .int .i64 a0_3, .int .i64 a0_4, .string a0_5] 27 (0, 0)) (by (with_reducible repeat (first | refine blk_drewN ?_ _ | refine blk_drew ?_ | refine blk_alloc ?_ _)); exact BK218.out)) : gb219 ≠ gb218)); clear BK218; clear HB; have BK218 := n0_; have HB := n1_; have BK219 := n2_; have GW219 := n3_; have GE219 := n4_; have NB218_219 := n5_; have NB219_218 := n6_; clear n0_ n1_ n2_ n3_ n4_ n5_ n6_; clear hb hbox hg; have hnb16 := NB218_219.out; have hnc16 := NB219_218.out; have hcz17_0 : w15.cell? ⟨gb218, 0, none⟩ = some (.int .i64 a0_0) := (blk_cell BK218.out 0).trans rfl; have hcz17_1 : w15.cell? ⟨gb218, 1, none⟩ = some (.int .i64 a0_1) := (blk_cell BK218.out 1).trans rfl; have hcz17_2 : w15.cell? ⟨gb218, 2, none⟩ = some (.int .i64 a0_2) := (blk_cell BK218.out 2).trans rfl; have hcz17_3 : w15.cell? ⟨gb218, 3, none⟩ = some (.int .i64 a0_3) := (blk_cell BK218.out 3).trans rfl; have hcz17_4 : w15.cell? ⟨gb218, 4, none⟩ = some (.int .i64 a0_4) := (blk_cell BK218.out 4).trans rfl; have hcz17_5 : w15.cell? ⟨gb218, 5, none⟩ = some (.string a0_5) := (blk_cell BK218.out 5).trans rfl; have hfz17_0 := blk_frozen BK218.out 0; have hfz17_1 := blk_frozen BK218.out 1; have hfz17_2 := blk_frozen BK218.out 2; have hfz17_3 := blk_frozen BK218.out 3; have hfz17_4 := blk_frozen BK218.out 4; have hfz17_5 := blk_frozen BK218.out 5; have hcz18_0 : w15.cell? ⟨gb219, 0, none⟩ = some (.int .i64 a1_0) := (blk_cell BK219.out 0).trans rfl; have hcz18_1 : w15.cell? ⟨gb219, 1, none⟩ = some (.int .i64 a1_1) := (blk_cell BK219.out 1).trans rfl; have hcz18_2 : w15.cell? ⟨gb219, 2, none⟩ = some (.int .i64 a1_2) := (blk_cell BK219.out 2).trans rfl; have hcz18_3 : w15.cell? ⟨gb219, 3, none⟩ = some (.int .i64 a1_3) := (blk_cell BK219.out 3).trans rfl; have hcz18_4 : w15.cell? ⟨gb219, 4, none⟩ = some (.int .i64 a1_4) := (blk_cell BK219.out 4).trans rfl; have hcz18_5 : w15.cell? ⟨gb219, 5, none⟩ = some (.string a1_5) := (blk_cell BK219.out 5).trans rfl; have hfz18_0 := blk_frozen BK219.out 0; have hfz18_1 := blk_frozen BK219.out 1; have hfz18_2 := blk_frozen BK219.out 2; have hfz18_3 := blk_frozen BK219.out 3; have hfz18_4 := blk_frozen BK219.out 4; have hfz18_5 := blk_frozen BK219.out 5))
              go_ret
              exact ⟨by first | rfl | (simp [errW_none, errW_some] <;> rfl) | (simp [*, errW_none, errW_some] <;> rfl), by repeat (first | (with_reducible first | exact HB.out | apply below_alloc | apply pw_below_drewN | apply below_drew1 | refine below_set ?_ GE218.out | refine below_set ?_ GE219.out) | exact HB.out)⟩
          · rw [if_neg c7] at H
            have c7b0 : (a0_4 == a1_4) = false := beq_eq_false_iff_ne.mpr c7
            have c7b1 : (a0_4 != a1_4) = true := bne_iff_ne.mpr c7
            obtain rfl := Option.some.inj H
            go_enter Tryd.func37, Tryd.ntmps37
            go_wp2_with (first | ((with_reducible refine gate_dst (N := 2) rfl ?_); refine box_event ?hg (N := 2) ?hd (cs := #[.int .i64 a0_0, .int .i64 a0_1, .int .i64 a0_2, .int .i64 a0_3, .int .i64 a0_4, .string a0_5]) (t := 27) ?hr ?_; (case hd => rfl); (case hg => rfl); (case hr => first | (go_simp; done) | (go_simp; rfl)); intro gb218 hg w19 hbox hb; have n0_ := Aside0.mk (below_step (by repeat (first | (with_reducible first | exact HB.out | apply below_alloc | apply pw_below_drewN | apply below_drew1) | exact HB.out)) hb); have n1_ := Aside0.mk (hbox); have n2_ := Aside0.mk ((by rw [hg]; exact (below_size (by repeat (first | (with_reducible first | exact HB.out | apply below_alloc | apply pw_below_drewN | apply below_drew1) | exact HB.out))) : w.heap.size ≤ gb218)); have n3_ := Aside0.mk ((by rw [hg]; exact (below_size (by repeat (first | (with_reducible first | exact HB.out | apply below_alloc | apply pw_below_drewN | apply below_drew1) | exact HB.out))) : w.heap.size ≤ gb218)); clear HB; have HB := n0_; have BK218 := n1_; have GW218 := n2_; have GE218 := n3_; clear n0_ n1_ n2_ n3_; clear hb hbox hg) | ((with_reducible refine gate_dst (N := 3) rfl ?_); refine box_event ?hg (N := 3) ?hd (cs := #[.int .i64 a1_0, .int .i64 a1_1, .int .i64 a1_2, .int .i64 a1_3, .int .i64 a1_4, .string a1_5]) (t := 27) ?hr ?_; (case hd => rfl); (case hg => rfl); (case hr => first | (go_simp; done) | (go_simp; rfl)); intro gb219 hg w20 hbox hb; have n0_ := Aside0.mk (blk_below (g := gb218) (o := .cells #[.int .i64 a0_0, .int .i64 a0_1, .int .i64 a0_2, .int .i64 a0_3, .int .i64 a0_4, .string a0_5] 27 (0, 0)) (by (with_reducible repeat (first | refine blk_drewN ?_ _ | refine blk_drew ?_ | refine blk_alloc ?_ _)); exact BK218.out) hb); have n1_ := Aside0.mk (below_step (by repeat (first | (with_reducible first | exact HB.out | apply below_alloc | apply pw_below_drewN | apply below_drew1 | refine below_set ?_ GE218.out) | exact HB.out)) hb); have n2_ := Aside0.mk (hbox); have n3_ := Aside0.mk ((by rw [hg]; exact (below_size (by repeat (first | (with_reducible first | exact HB.out | apply below_alloc | apply pw_below_drewN | apply below_drew1 | refine below_set ?_ GE218.out) | exact HB.out))) : w.heap.size ≤ gb219)); have n4_ := Aside0.mk ((by rw [hg]; exact (below_size (by repeat (first | (with_reducible first | exact HB.out | apply below_alloc | apply pw_below_drewN | apply below_drew1 | refine below_set ?_ GE218.out) | exact HB.out))) : w.heap.size ≤ gb219)); have n5_ := Aside0.mk ((by rw [hg]; exact Nat.ne_of_lt (blk_lt (g := gb218) (o := .cells #[.int .i64 a0_0, .int .i64 a0_1, .int .i64 a0_2, .int .i64 a0_3, .int .i64 a0_4, .string a0_5] 27 (0, 0)) (by (with_reducible repeat (first | refine blk_drewN ?_ _ | refine blk_drew ?_ | refine blk_alloc ?_ _)); exact BK218.out)) : gb218 ≠ gb219)); have n6_ := Aside0.mk ((by rw [hg]; exact Nat.ne_of_gt (blk_lt (g := gb218) (o := .cells #[.int .i64 a0_0, .int .i64 a0_1, .int .i64 a0_2, .int .i64 a0_3, .int .i64 a0_4, .string a0_5] 27 (0, 0)) (by (with_reducible repeat (first | refine blk_drewN ?_ _ | refine blk_drew ?_ | refine blk_alloc ?_ _)); exact BK218.out)) : gb219 ≠ gb218)); clear BK218; clear HB; have BK218 := n0_; have HB := n1_; have BK219 := n2_; have GW219 := n3_; have GE219 := n4_; have NB218_219 := n5_; have NB219_218 := n6_; clear n0_ n1_ n2_ n3_ n4_ n5_ n6_; clear hb hbox hg; have hnb21 := NB218_219.out; have hnc21 := NB219_218.out; have hcz22_0 : w20.cell? ⟨gb218, 0, none⟩ = some (.int .i64 a0_0) := (blk_cell BK218.out 0).trans rfl; have hcz22_1 : w20.cell? ⟨gb218, 1, none⟩ = some (.int .i64 a0_1) := (blk_cell BK218.out 1).trans rfl; have hcz22_2 : w20.cell? ⟨gb218, 2, none⟩ = some (.int .i64 a0_2) := (blk_cell BK218.out 2).trans rfl; have hcz22_3 : w20.cell? ⟨gb218, 3, none⟩ = some (.int .i64 a0_3) := (blk_cell BK218.out 3).trans rfl; have hcz22_4 : w20.cell? ⟨gb218, 4, none⟩ = some (.int .i64 a0_4) := (blk_cell BK218.out 4).trans rfl; have hcz22_5 : w20.cell? ⟨gb218, 5, none⟩ = some (.string a0_5) := (blk_cell BK218.out 5).trans rfl; have hfz22_0 := blk_frozen BK218.out 0; have hfz22_1 := blk_frozen BK218.out 1; have hfz22_2 := blk_frozen BK218.out 2; have hfz22_3 := blk_frozen BK218.out 3; have hfz22_4 := blk_frozen BK218.out 4; have hfz22_5 := blk_frozen BK218.out 5; have hcz23_0 : w20.cell? ⟨gb219, 0, none⟩ = some (.int .i64 a1_0) := (blk_cell BK219.out 0).trans rfl; have hcz23_1 : w20.cell? ⟨gb219, 1, none⟩ = some (.int .i64 a1_1) := (blk_cell BK219.out 1).trans rfl; have hcz23_2 : w20.cell? ⟨gb219, 2, none⟩ = some (.int .i64 a1_2) := (blk_cell BK219.out 2).trans rfl; have hcz23_3 : w20.cell? ⟨gb219, 3, none⟩ = some (.int .i64 a1_3) := (blk_cell BK219.out 3).trans rfl; have hcz23_4 : w20.cell? ⟨gb219, 4, none⟩ = some (.int .i64 a1_4) := (blk_cell BK219.out 4).trans rfl; have hcz23_5 : w20.cell? ⟨gb219, 5, none⟩ = some (.string a1_5) := (blk_cell BK219.out 5).trans rfl; have hfz23_0 := blk_frozen BK219.out 0; have hfz23_1 := blk_frozen BK219.out 1; have hfz23_2 := blk_frozen BK219.out 2; have hfz23_3 := blk_frozen BK219.out 3; have hfz23_4 := blk_frozen BK219.out 4; have hfz23_5 := blk_frozen BK219.out 5))
            go_ret
            exact ⟨by first | rfl | (simp [errW_none, errW_some] <;> rfl) | (simp [*, errW_none, errW_some] <;> rfl), by repeat (first | (with_reducible first | exact HB.out | apply below_alloc | apply pw_below_drewN | apply below_drew1 | refine below_set ?_ GE218.out | refine below_set ?_ GE219.out) | exact HB.out)⟩
        · rw [if_neg c6] at H
          have c6b0 : (a0_3 == a1_3) = false := beq_eq_false_iff_ne.mpr c6
          have c6b1 : (a0_3 != a1_3) = true := bne_iff_ne.mpr c6
          obtain rfl := Option.some.inj H
          go_enter Tryd.func37, Tryd.ntmps37
          go_wp2_with (first | ((with_reducible refine gate_dst (N := 2) rfl ?_); refine box_event ?hg (N := 2) ?hd (cs := #[.int .i64 a0_0, .int .i64 a0_1, .int .i64 a0_2, .int .i64 a0_3, .int .i64 a0_4, .string a0_5]) (t := 27) ?hr ?_; (case hd => rfl); (case hg => rfl); (case hr => first | (go_simp; done) | (go_simp; rfl)); intro gb218 hg w24 hbox hb; have n0_ := Aside0.mk (below_step (by repeat (first | (with_reducible first | exact HB.out | apply below_alloc | apply pw_below_drewN | apply below_drew1) | exact HB.out)) hb); have n1_ := Aside0.mk (hbox); have n2_ := Aside0.mk ((by rw [hg]; exact (below_size (by repeat (first | (with_reducible first | exact HB.out | apply below_alloc | apply pw_below_drewN | apply below_drew1) | exact HB.out))) : w.heap.size ≤ gb218)); have n3_ := Aside0.mk ((by rw [hg]; exact (below_size (by repeat (first | (with_reducible first | exact HB.out | apply below_alloc | apply pw_below_drewN | apply below_drew1) | exact HB.out))) : w.heap.size ≤ gb218)); clear HB; have HB := n0_; have BK218 := n1_; have GW218 := n2_; have GE218 := n3_; clear n0_ n1_ n2_ n3_; clear hb hbox hg) | ((with_reducible refine gate_dst (N := 3) rfl ?_); refine box_event ?hg (N := 3) ?hd (cs := #[.int .i64 a1_0, .int .i64 a1_1, .int .i64 a1_2, .int .i64 a1_3, .int .i64 a1_4, .string a1_5]) (t := 27) ?hr ?_; (case hd => rfl); (case hg => rfl); (case hr => first | (go_simp; done) | (go_simp; rfl)); intro gb219 hg w25 hbox hb; have n0_ := Aside0.mk (blk_below (g := gb218) (o := .cells #[.int .i64 a0_0, .int .i64 a0_1, .int .i64 a0_2, .int .i64 a0_3, .int .i64 a0_4, .string a0_5] 27 (0, 0)) (by (with_reducible repeat (first | refine blk_drewN ?_ _ | refine blk_drew ?_ | refine blk_alloc ?_ _)); exact BK218.out) hb); have n1_ := Aside0.mk (below_step (by repeat (first | (with_reducible first | exact HB.out | apply below_alloc | apply pw_below_drewN | apply below_drew1 | refine below_set ?_ GE218.out) | exact HB.out)) hb); have n2_ := Aside0.mk (hbox); have n3_ := Aside0.mk ((by rw [hg]; exact (below_size (by repeat (first | (with_reducible first | exact HB.out | apply below_alloc | apply pw_below_drewN | apply below_drew1 | refine below_set ?_ GE218.out) | exact HB.out))) : w.heap.size ≤ gb219)); have n4_ := Aside0.mk ((by rw [hg]; exact (below_size (by repeat (first | (with_reducible first | exact HB.out | apply below_alloc | apply pw_below_drewN | apply below_drew1 | refine below_set ?_ GE218.out) | exact HB.out))) : w.heap.size ≤ gb219)); have n5_ := Aside0.mk ((by rw [hg]; exact Nat.ne_of_lt (blk_lt (g := gb218) (o := .cells #[.int .i64 a0_0, .int .i64 a0_1, .int .i64 a0_2, .int .i64 a0_3, .int .i64 a0_4, .string a0_5] 27 (0, 0)) (by (with_reducible repeat (first | refine blk_drewN ?_ _ | refine blk_drew ?_ | refine blk_alloc ?_ _)); exact BK218.out)) : gb218 ≠ gb219)); have n6_ := Aside0.mk ((by rw [hg]; exact Nat.ne_of_gt (blk_lt (g := gb218) (o := .cells #[.int .i64 a0_0, .int .i64 a0_1, .int .i64 a0_2, .int .i64 a0_3, .int .i64 a0_4, .string a0_5] 27 (0, 0)) (by (with_reducible repeat (first | refine blk_drewN ?_ _ | refine blk_drew ?_ | refine blk_alloc ?_ _)); exact BK218.out)) : gb219 ≠ gb218)); clear BK218; clear HB; have BK218 := n0_; have HB := n1_; have BK219 := n2_; have GW219 := n3_; have GE219 := n4_; have NB218_219 := n5_; have NB219_218 := n6_; clear n0_ n1_ n2_ n3_ n4_ n5_ n6_; clear hb hbox hg; have hnb26 := NB218_219.out; have hnc26 := NB219_218.out; have hcz27_0 : w25.cell? ⟨gb218, 0, none⟩ = some (.int .i64 a0_0) := (blk_cell BK218.out 0).trans rfl; have hcz27_1 : w25.cell? ⟨gb218, 1, none⟩ = some (.int .i64 a0_1) := (blk_cell BK218.out 1).trans rfl; have hcz27_2 : w25.cell? ⟨gb218, 2, none⟩ = some (.int .i64 a0_2) := (blk_cell BK218.out 2).trans rfl; have hcz27_3 : w25.cell? ⟨gb218, 3, none⟩ = some (.int .i64 a0_3) := (blk_cell BK218.out 3).trans rfl; have hcz27_4 : w25.cell? ⟨gb218, 4, none⟩ = some (.int .i64 a0_4) := (blk_cell BK218.out 4).trans rfl; have hcz27_5 : w25.cell? ⟨gb218, 5, none⟩ = some (.string a0_5) := (blk_cell BK218.out 5).trans rfl; have hfz27_0 := blk_frozen BK218.out 0; have hfz27_1 := blk_frozen BK218.out 1; have hfz27_2 := blk_frozen BK218.out 2; have hfz27_3 := blk_frozen BK218.out 3; have hfz27_4 := blk_frozen BK218.out 4; have hfz27_5 := blk_frozen BK218.out 5; have hcz28_0 : w25.cell? ⟨gb219, 0, none⟩ = some (.int .i64 a1_0) := (blk_cell BK219.out 0).trans rfl; have hcz28_1 : w25.cell? ⟨gb219, 1, none⟩ = some (.int .i64 a1_1) := (blk_cell BK219.out 1).trans rfl; have hcz28_2 : w25.cell? ⟨gb219, 2, none⟩ = some (.int .i64 a1_2) := (blk_cell BK219.out 2).trans rfl; have hcz28_3 : w25.cell? ⟨gb219, 3, none⟩ = some (.int .i64 a1_3) := (blk_cell BK219.out 3).trans rfl; have hcz28_4 : w25.cell? ⟨gb219, 4, none⟩ = some (.int .i64 a1_4) := (blk_cell BK219.out 4).trans rfl; have hcz28_5 : w25.cell? ⟨gb219, 5, none⟩ = some (.string a1_5) := (blk_cell BK219.out 5).trans rfl; have hfz28_0 := blk_frozen BK219.out 0; have hfz28_1 := blk_frozen BK219.out 1; have hfz28_2 := blk_frozen BK219.out 2; have hfz28_3 := blk_frozen BK219.out 3; have hfz28_4 := blk_frozen BK219.out 4; have hfz28_5 := blk_frozen BK219.out 5))
          go_ret
          exact ⟨by first | rfl | (simp [errW_none, errW_some] <;> rfl) | (simp [*, errW_none, errW_some] <;> rfl), by repeat (first | (with_reducible first | exact HB.out | apply below_alloc | apply pw_below_drewN | apply below_drew1 | refine below_set ?_ GE218.out | refine below_set ?_ GE219.out) | exact HB.out)⟩
      · rw [if_neg c5] at H
        have c5b0 : (a0_2 == a1_2) = false := beq_eq_false_iff_ne.mpr c5
        have c5b1 : (a0_2 != a1_2) = true := bne_iff_ne.mpr c5
        obtain rfl := Option.some.inj H
        go_enter Tryd.func37, Tryd.ntmps37
        go_wp2_with (first | ((with_reducible refine gate_dst (N := 2) rfl ?_); refine box_event ?hg (N := 2) ?hd (cs := #[.int .i64 a0_0, .int .i64 a0_1, .int .i64 a0_2, .int .i64 a0_3, .int .i64 a0_4, .string a0_5]) (t := 27) ?hr ?_; (case hd => rfl); (case hg => rfl); (case hr => first | (go_simp; done) | (go_simp; rfl)); intro gb218 hg w29 hbox hb; have n0_ := Aside0.mk (below_step (by repeat (first | (with_reducible first | exact HB.out | apply below_alloc | apply pw_below_drewN | apply below_drew1) | exact HB.out)) hb); have n1_ := Aside0.mk (hbox); have n2_ := Aside0.mk ((by rw [hg]; exact (below_size (by repeat (first | (with_reducible first | exact HB.out | apply below_alloc | apply pw_below_drewN | apply below_drew1) | exact HB.out))) : w.heap.size ≤ gb218)); have n3_ := Aside0.mk ((by rw [hg]; exact (below_size (by repeat (first | (with_reducible first | exact HB.out | apply below_alloc | apply pw_below_drewN | apply below_drew1) | exact HB.out))) : w.heap.size ≤ gb218)); clear HB; have HB := n0_; have BK218 := n1_; have GW218 := n2_; have GE218 := n3_; clear n0_ n1_ n2_ n3_; clear hb hbox hg) | ((with_reducible refine gate_dst (N := 3) rfl ?_); refine box_event ?hg (N := 3) ?hd (cs := #[.int .i64 a1_0, .int .i64 a1_1, .int .i64 a1_2, .int .i64 a1_3, .int .i64 a1_4, .string a1_5]) (t := 27) ?hr ?_; (case hd => rfl); (case hg => rfl); (case hr => first | (go_simp; done) | (go_simp; rfl)); intro gb219 hg w30 hbox hb; have n0_ := Aside0.mk (blk_below (g := gb218) (o := .cells #[.int .i64 a0_0, .int .i64 a0_1, .int .i64 a0_2, .int .i64 a0_3, .int .i64 a0_4, .string a0_5] 27 (0, 0)) (by (with_reducible repeat (first | refine blk_drewN ?_ _ | refine blk_drew ?_ | refine blk_alloc ?_ _)); exact BK218.out) hb); have n1_ := Aside0.mk (below_step (by repeat (first | (with_reducible first | exact HB.out | apply below_alloc | apply pw_below_drewN | apply below_drew1 | refine below_set ?_ GE218.out) | exact HB.out)) hb); have n2_ := Aside0.mk (hbox); have n3_ := Aside0.mk ((by rw [hg]; exact (below_size (by repeat (first | (with_reducible first | exact HB.out | apply below_alloc | apply pw_below_drewN | apply below_drew1 | refine below_set ?_ GE218.out) | exact HB.out))) : w.heap.size ≤ gb219)); have n4_ := Aside0.mk ((by rw [hg]; exact (below_size (by repeat (first | (with_reducible first | exact HB.out | apply below_alloc | apply pw_below_drewN | apply below_drew1 | refine below_set ?_ GE218.out) | exact HB.out))) : w.heap.size ≤ gb219)); have n5_ := Aside0.mk ((by rw [hg]; exact Nat.ne_of_lt (blk_lt (g := gb218) (o := .cells #[.int .i64 a0_0, .int .i64 a0_1, .int .i64 a0_2, .int .i64 a0_3, .int .i64 a0_4, .string a0_5] 27 (0, 0)) (by (with_reducible repeat (first | refine blk_drewN ?_ _ | refine blk_drew ?_ | refine blk_alloc ?_ _)); exact BK218.out)) : gb218 ≠ gb219)); have n6_ := Aside0.mk ((by rw [hg]; exact Nat.ne_of_gt (blk_lt (g := gb218) (o := .cells #[.int .i64 a0_0, .int .i64 a0_1, .int .i64 a0_2, .int .i64 a0_3, .int .i64 a0_4, .string a0_5] 27 (0, 0)) (by (with_reducible repeat (first | refine blk_drewN ?_ _ | refine blk_drew ?_ | refine blk_alloc ?_ _)); exact BK218.out)) : gb219 ≠ gb218)); clear BK218; clear HB; have BK218 := n0_; have HB := n1_; have BK219 := n2_; have GW219 := n3_; have GE219 := n4_; have NB218_219 := n5_; have NB219_218 := n6_; clear n0_ n1_ n2_ n3_ n4_ n5_ n6_; clear hb hbox hg; have hnb31 := NB218_219.out; have hnc31 := NB219_218.out; have hcz32_0 : w30.cell? ⟨gb218, 0, none⟩ = some (.int .i64 a0_0) := (blk_cell BK218.out 0).trans rfl; have hcz32_1 : w30.cell? ⟨gb218, 1, none⟩ = some (.int .i64 a0_1) := (blk_cell BK218.out 1).trans rfl; have hcz32_2 : w30.cell? ⟨gb218, 2, none⟩ = some (.int .i64 a0_2) := (blk_cell BK218.out 2).trans rfl; have hcz32_3 : w30.cell? ⟨gb218, 3, none⟩ = some (.int .i64 a0_3) := (blk_cell BK218.out 3).trans rfl; have hcz32_4 : w30.cell? ⟨gb218, 4, none⟩ = some (.int .i64 a0_4) := (blk_cell BK218.out 4).trans rfl; have hcz32_5 : w30.cell? ⟨gb218, 5, none⟩ = some (.string a0_5) := (blk_cell BK218.out 5).trans rfl; have hfz32_0 := blk_frozen BK218.out 0; have hfz32_1 := blk_frozen BK218.out 1; have hfz32_2 := blk_frozen BK218.out 2; have hfz32_3 := blk_frozen BK218.out 3; have hfz32_4 := blk_frozen BK218.out 4; have hfz32_5 := blk_frozen BK218.out 5; have hcz33_0 : w30.cell? ⟨gb219, 0, none⟩ = some (.int .i64 a1_0) := (blk_cell BK219.out 0).trans rfl; have hcz33_1 : w30.cell? ⟨gb219, 1, none⟩ = some (.int .i64 a1_1) := (blk_cell BK219.out 1).trans rfl; have hcz33_2 : w30.cell? ⟨gb219, 2, none⟩ = some (.int .i64 a1_2) := (blk_cell BK219.out 2).trans rfl; have hcz33_3 : w30.cell? ⟨gb219, 3, none⟩ = some (.int .i64 a1_3) := (blk_cell BK219.out 3).trans rfl; have hcz33_4 : w30.cell? ⟨gb219, 4, none⟩ = some (.int .i64 a1_4) := (blk_cell BK219.out 4).trans rfl; have hcz33_5 : w30.cell? ⟨gb219, 5, none⟩ = some (.string a1_5) := (blk_cell BK219.out 5).trans rfl; have hfz33_0 := blk_frozen BK219.out 0; have hfz33_1 := blk_frozen BK219.out 1; have hfz33_2 := blk_frozen BK219.out 2; have hfz33_3 := blk_frozen BK219.out 3; have hfz33_4 := blk_frozen BK219.out 4; have hfz33_5 := blk_frozen BK219.out 5))
        go_ret
        exact ⟨by first | rfl | (simp [errW_none, errW_some] <;> rfl) | (simp [*, errW_none, errW_some] <;> rfl), by repeat (first | (with_reducible first | exact HB.out | apply below_alloc | apply pw_below_drewN | apply below_drew1 | refine below_set ?_ GE218.out | refine below_set ?_ GE219.out) | exact HB.out)⟩
    · rw [if_neg c4] at H
      have c4b0 : (a0_1 == a1_1) = false := beq_eq_false_iff_ne.mpr c4
      have c4b1 : (a0_1 != a1_1) = true := bne_iff_ne.mpr c4
      obtain rfl := Option.some.inj H
      go_enter Tryd.func37, Tryd.ntmps37
      go_wp2_with (first | ((with_reducible refine gate_dst (N := 2) rfl ?_); refine box_event ?hg (N := 2) ?hd (cs := #[.int .i64 a0_0, .int .i64 a0_1, .int .i64 a0_2, .int .i64 a0_3, .int .i64 a0_4, .string a0_5]) (t := 27) ?hr ?_; (case hd => rfl); (case hg => rfl); (case hr => first | (go_simp; done) | (go_simp; rfl)); intro gb218 hg w34 hbox hb; have n0_ := Aside0.mk (below_step (by repeat (first | (with_reducible first | exact HB.out | apply below_alloc | apply pw_below_drewN | apply below_drew1) | exact HB.out)) hb); have n1_ := Aside0.mk (hbox); have n2_ := Aside0.mk ((by rw [hg]; exact (below_size (by repeat (first | (with_reducible first | exact HB.out | apply below_alloc | apply pw_below_drewN | apply below_drew1) | exact HB.out))) : w.heap.size ≤ gb218)); have n3_ := Aside0.mk ((by rw [hg]; exact (below_size (by repeat (first | (with_reducible first | exact HB.out | apply below_alloc | apply pw_below_drewN | apply below_drew1) | exact HB.out))) : w.heap.size ≤ gb218)); clear HB; have HB := n0_; have BK218 := n1_; have GW218 := n2_; have GE218 := n3_; clear n0_ n1_ n2_ n3_; clear hb hbox hg) | ((with_reducible refine gate_dst (N := 3) rfl ?_); refine box_event ?hg (N := 3) ?hd (cs := #[.int .i64 a1_0, .int .i64 a1_1, .int .i64 a1_2, .int .i64 a1_3, .int .i64 a1_4, .string a1_5]) (t := 27) ?hr ?_; (case hd => rfl); (case hg => rfl); (case hr => first | (go_simp; done) | (go_simp; rfl)); intro gb219 hg w35 hbox hb; have n0_ := Aside0.mk (blk_below (g := gb218) (o := .cells #[.int .i64 a0_0, .int .i64 a0_1, .int .i64 a0_2, .int .i64 a0_3, .int .i64 a0_4, .string a0_5] 27 (0, 0)) (by (with_reducible repeat (first | refine blk_drewN ?_ _ | refine blk_drew ?_ | refine blk_alloc ?_ _)); exact BK218.out) hb); have n1_ := Aside0.mk (below_step (by repeat (first | (with_reducible first | exact HB.out | apply below_alloc | apply pw_below_drewN | apply below_drew1 | refine below_set ?_ GE218.out) | exact HB.out)) hb); have n2_ := Aside0.mk (hbox); have n3_ := Aside0.mk ((by rw [hg]; exact (below_size (by repeat (first | (with_reducible first | exact HB.out | apply below_alloc | apply pw_below_drewN | apply below_drew1 | refine below_set ?_ GE218.out) | exact HB.out))) : w.heap.size ≤ gb219)); have n4_ := Aside0.mk ((by rw [hg]; exact (below_size (by repeat (first | (with_reducible first | exact HB.out | apply below_alloc | apply pw_below_drewN | apply below_drew1 | refine below_set ?_ GE218.out) | exact HB.out))) : w.heap.size ≤ gb219)); have n5_ := Aside0.mk ((by rw [hg]; exact Nat.ne_of_lt (blk_lt (g := gb218) (o := .cells #[.int .i64 a0_0, .int .i64 a0_1, .int .i64 a0_2, .int .i64 a0_3, .int .i64 a0_4, .string a0_5] 27 (0, 0)) (by (with_reducible repeat (first | refine blk_drewN ?_ _ | refine blk_drew ?_ | refine blk_alloc ?_ _)); exact BK218.out)) : gb218 ≠ gb219)); have n6_ := Aside0.mk ((by rw [hg]; exact Nat.ne_of_gt (blk_lt (g := gb218) (o := .cells #[.int .i64 a0_0, .int .i64 a0_1, .int .i64 a0_2, .int .i64 a0_3, .int .i64 a0_4, .string a0_5] 27 (0, 0)) (by (with_reducible repeat (first | refine blk_drewN ?_ _ | refine blk_drew ?_ | refine blk_alloc ?_ _)); exact BK218.out)) : gb219 ≠ gb218)); clear BK218; clear HB; have BK218 := n0_; have HB := n1_; have BK219 := n2_; have GW219 := n3_; have GE219 := n4_; have NB218_219 := n5_; have NB219_218 := n6_; clear n0_ n1_ n2_ n3_ n4_ n5_ n6_; clear hb hbox hg; have hnb36 := NB218_219.out; have hnc36 := NB219_218.out; have hcz37_0 : w35.cell? ⟨gb218, 0, none⟩ = some (.int .i64 a0_0) := (blk_cell BK218.out 0).trans rfl; have hcz37_1 : w35.cell? ⟨gb218, 1, none⟩ = some (.int .i64 a0_1) := (blk_cell BK218.out 1).trans rfl; have hcz37_2 : w35.cell? ⟨gb218, 2, none⟩ = some (.int .i64 a0_2) := (blk_cell BK218.out 2).trans rfl; have hcz37_3 : w35.cell? ⟨gb218, 3, none⟩ = some (.int .i64 a0_3) := (blk_cell BK218.out 3).trans rfl; have hcz37_4 : w35.cell? ⟨gb218, 4, none⟩ = some (.int .i64 a0_4) := (blk_cell BK218.out 4).trans rfl; have hcz37_5 : w35.cell? ⟨gb218, 5, none⟩ = some (.string a0_5) := (blk_cell BK218.out 5).trans rfl; have hfz37_0 := blk_frozen BK218.out 0; have hfz37_1 := blk_frozen BK218.out 1; have hfz37_2 := blk_frozen BK218.out 2; have hfz37_3 := blk_frozen BK218.out 3; have hfz37_4 := blk_frozen BK218.out 4; have hfz37_5 := blk_frozen BK218.out 5; have hcz38_0 : w35.cell? ⟨gb219, 0, none⟩ = some (.int .i64 a1_0) := (blk_cell BK219.out 0).trans rfl; have hcz38_1 : w35.cell? ⟨gb219, 1, none⟩ = some (.int .i64 a1_1) := (blk_cell BK219.out 1).trans rfl; have hcz38_2 : w35.cell? ⟨gb219, 2, none⟩ = some (.int .i64 a1_2) := (blk_cell BK219.out 2).trans rfl; have hcz38_3 : w35.cell? ⟨gb219, 3, none⟩ = some (.int .i64 a1_3) := (blk_cell BK219.out 3).trans rfl; have hcz38_4 : w35.cell? ⟨gb219, 4, none⟩ = some (.int .i64 a1_4) := (blk_cell BK219.out 4).trans rfl; have hcz38_5 : w35.cell? ⟨gb219, 5, none⟩ = some (.string a1_5) := (blk_cell BK219.out 5).trans rfl; have hfz38_0 := blk_frozen BK219.out 0; have hfz38_1 := blk_frozen BK219.out 1; have hfz38_2 := blk_frozen BK219.out 2; have hfz38_3 := blk_frozen BK219.out 3; have hfz38_4 := blk_frozen BK219.out 4; have hfz38_5 := blk_frozen BK219.out 5))
      go_ret
      exact ⟨by first | rfl | (simp [errW_none, errW_some] <;> rfl) | (simp [*, errW_none, errW_some] <;> rfl), by repeat (first | (with_reducible first | exact HB.out | apply below_alloc | apply pw_below_drewN | apply below_drew1 | refine below_set ?_ GE218.out | refine below_set ?_ GE219.out) | exact HB.out)⟩
  · rw [if_neg c3] at H
    have c3b0 : (a0_0 == a1_0) = false := beq_eq_false_iff_ne.mpr c3
    have c3b1 : (a0_0 != a1_0) = true := bne_iff_ne.mpr c3
    obtain rfl := Option.some.inj H
    go_enter Tryd.func37, Tryd.ntmps37
    go_wp2_with (first | ((with_reducible refine gate_dst (N := 2) rfl ?_); refine box_event ?hg (N := 2) ?hd (cs := #[.int .i64 a0_0, .int .i64 a0_1, .int .i64 a0_2, .int .i64 a0_3, .int .i64 a0_4, .string a0_5]) (t := 27) ?hr ?_; (case hd => rfl); (case hg => rfl); (case hr => first | (go_simp; done) | (go_simp; rfl)); intro gb218 hg w39 hbox hb; have n0_ := Aside0.mk (below_step (by repeat (first | (with_reducible first | exact HB.out | apply below_alloc | apply pw_below_drewN | apply below_drew1) | exact HB.out)) hb); have n1_ := Aside0.mk (hbox); have n2_ := Aside0.mk ((by rw [hg]; exact (below_size (by repeat (first | (with_reducible first | exact HB.out | apply below_alloc | apply pw_below_drewN | apply below_drew1) | exact HB.out))) : w.heap.size ≤ gb218)); have n3_ := Aside0.mk ((by rw [hg]; exact (below_size (by repeat (first | (with_reducible first | exact HB.out | apply below_alloc | apply pw_below_drewN | apply below_drew1) | exact HB.out))) : w.heap.size ≤ gb218)); clear HB; have HB := n0_; have BK218 := n1_; have GW218 := n2_; have GE218 := n3_; clear n0_ n1_ n2_ n3_; clear hb hbox hg) | ((with_reducible refine gate_dst (N := 3) rfl ?_); refine box_event ?hg (N := 3) ?hd (cs := #[.int .i64 a1_0, .int .i64 a1_1, .int .i64 a1_2, .int .i64 a1_3, .int .i64 a1_4, .string a1_5]) (t := 27) ?hr ?_; (case hd => rfl); (case hg => rfl); (case hr => first | (go_simp; done) | (go_simp; rfl)); intro gb219 hg w40 hbox hb; have n0_ := Aside0.mk (blk_below (g := gb218) (o := .cells #[.int .i64 a0_0, .int .i64 a0_1, .int .i64 a0_2, .int .i64 a0_3, .int .i64 a0_4, .string a0_5] 27 (0, 0)) (by (with_reducible repeat (first | refine blk_drewN ?_ _ | refine blk_drew ?_ | refine blk_alloc ?_ _)); exact BK218.out) hb); have n1_ := Aside0.mk (below_step (by repeat (first | (with_reducible first | exact HB.out | apply below_alloc | apply pw_below_drewN | apply below_drew1 | refine below_set ?_ GE218.out) | exact HB.out)) hb); have n2_ := Aside0.mk (hbox); have n3_ := Aside0.mk ((by rw [hg]; exact (below_size (by repeat (first | (with_reducible first | exact HB.out | apply below_alloc | apply pw_below_drewN | apply below_drew1 | refine below_set ?_ GE218.out) | exact HB.out))) : w.heap.size ≤ gb219)); have n4_ := Aside0.mk ((by rw [hg]; exact (below_size (by repeat (first | (with_reducible first | exact HB.out | apply below_alloc | apply pw_below_drewN | apply below_drew1 | refine below_set ?_ GE218.out) | exact HB.out))) : w.heap.size ≤ gb219)); have n5_ := Aside0.mk ((by rw [hg]; exact Nat.ne_of_lt (blk_lt (g := gb218) (o := .cells #[.int .i64 a0_0, .int .i64 a0_1, .int .i64 a0_2, .int .i64 a0_3, .int .i64 a0_4, .string a0_5] 27 (0, 0)) (by (with_reducible repeat (first | refine blk_drewN ?_ _ | refine blk_drew ?_ | refine blk_alloc ?_ _)); exact BK218.out)) : gb218 ≠ gb219)); have n6_ := Aside0.mk ((by rw [hg]; exact Nat.ne_of_gt (blk_lt (g := gb218) (o := .cells #[.int .i64 a0_0, .int .i64 a0_1, .int .i64 a0_2, .int .i64 a0_3, .int .i64 a0_4, .string a0_5] 27 (0, 0)) (by (with_reducible repeat (first | refine blk_drewN ?_ _ | refine blk_drew ?_ | refine blk_alloc ?_ _)); exact BK218.out)) : gb219 ≠ gb218)); clear BK218; clear HB; have BK218 := n0_; have HB := n1_; have BK219 := n2_; have GW219 := n3_; have GE219 := n4_; have NB218_219 := n5_; have NB219_218 := n6_; clear n0_ n1_ n2_ n3_ n4_ n5_ n6_; clear hb hbox hg; have hnb41 := NB218_219.out; have hnc41 := NB219_218.out; have hcz42_0 : w40.cell? ⟨gb218, 0, none⟩ = some (.int .i64 a0_0) := (blk_cell BK218.out 0).trans rfl; have hcz42_1 : w40.cell? ⟨gb218, 1, none⟩ = some (.int .i64 a0_1) := (blk_cell BK218.out 1).trans rfl; have hcz42_2 : w40.cell? ⟨gb218, 2, none⟩ = some (.int .i64 a0_2) := (blk_cell BK218.out 2).trans rfl; have hcz42_3 : w40.cell? ⟨gb218, 3, none⟩ = some (.int .i64 a0_3) := (blk_cell BK218.out 3).trans rfl; have hcz42_4 : w40.cell? ⟨gb218, 4, none⟩ = some (.int .i64 a0_4) := (blk_cell BK218.out 4).trans rfl; have hcz42_5 : w40.cell? ⟨gb218, 5, none⟩ = some (.string a0_5) := (blk_cell BK218.out 5).trans rfl; have hfz42_0 := blk_frozen BK218.out 0; have hfz42_1 := blk_frozen BK218.out 1; have hfz42_2 := blk_frozen BK218.out 2; have hfz42_3 := blk_frozen BK218.out 3; have hfz42_4 := blk_frozen BK218.out 4; have hfz42_5 := blk_frozen BK218.out 5; have hcz43_0 : w40.cell? ⟨gb219, 0, none⟩ = some (.int .i64 a1_0) := (blk_cell BK219.out 0).trans rfl; have hcz43_1 : w40.cell? ⟨gb219, 1, none⟩ = some (.int .i64 a1_1) := (blk_cell BK219.out 1).trans rfl; have hcz43_2 : w40.cell? ⟨gb219, 2, none⟩ = some (.int .i64 a1_2) := (blk_cell BK219.out 2).trans rfl; have hcz43_3 : w40.cell? ⟨gb219, 3, none⟩ = some (.int .i64 a1_3) := (blk_cell BK219.out 3).trans rfl; have hcz43_4 : w40.cell? ⟨gb219, 4, none⟩ = some (.int .i64 a1_4) := (blk_cell BK219.out 4).trans rfl; have hcz43_5 : w40.cell? ⟨gb219, 5, none⟩ = some (.string a1_5) := (blk_cell BK219.out 5).trans rfl; have hfz43_0 := blk_frozen BK219.out 0; have hfz43_1 := blk_frozen BK219.out 1; have hfz43_2 := blk_frozen BK219.out 2; have hfz43_3 := blk_frozen BK219.out 3; have hfz43_4 := blk_frozen BK219.out 4; have hfz43_5 := blk_frozen BK219.out 5))
    go_ret
    exact ⟨by first | rfl | (simp [errW_none, errW_some] <;> rfl) | (simp [*, errW_none, errW_some] <;> rfl), by repeat (first | (with_reducible first | exact HB.out | apply below_alloc | apply pw_below_drewN | apply below_drew1 | refine below_set ?_ GE218.out | refine below_set ?_ GE219.out) | exact HB.out)⟩

/-! ### laws_FnExactParseInstr: function 8 -/
def laws_FnExactParseInstr.f (k : Nat) (a0 : ByteArray) : Option (Bool) := if (a0.size : Int) > 1048576 then (some true) else ((spec_ParseInstr.f k a0).bind fun bt220 => ((impl_ParseInstr.f k a0).bind fun bt228 => ((laws_eqInstr.f bt228.1 bt228.2.1 bt228.2.2.1 bt228.2.2.2.1 bt228.2.2.2.2.1 bt228.2.2.2.2.2.1 bt220.1 bt220.2.1 bt220.2.2.1 bt220.2.2.2.1 bt220.2.2.2.2.1 bt220.2.2.2.2.2.1).bind fun t236 => (if t236 = true then (if (bt228.2.2.2.2.2.2 != bt220.2.2.2.2.2.2) = true then (none) else (some true)) else (none)))))
theorem laws_FnExactParseInstr.mono : ∀ a0 k, LeO (laws_FnExactParseInstr.f k a0) (laws_FnExactParseInstr.f (k + 1) a0) := by
  intro a0 k
  unfold laws_FnExactParseInstr.f
  repeat' first
      | (with_reducible exact impl_ParseInstr.mono _ _)
      | (with_reducible exact spec_ParseInstr.mono _ _)
      | (with_reducible exact LeO.refl _)
      | (with_reducible exact LeO.none _)
      | (with_reducible refine LeO.ite ?_ ?_)
      | (with_reducible refine LeO.bind ?_ (fun _ => ?_))
      | exact impl_ParseInstr.mono _ _
      | exact spec_ParseInstr.mono _ _
      | exact LeO.none _
      | refine LeO.ite ?_ ?_
      | refine LeO.bind ?_ (fun _ => ?_)
set_option maxHeartbeats 8000000 in
set_option maxRecDepth 100000 in
theorem laws_FnExactParseInstr.calls (k : Nat) (a0 : ByteArray) (r : Bool) (w : World) (h : laws_FnExactParseInstr.f k a0 = some r) (htab : Go.Proofs.YtmipaoobkjppdaaDoor.TabFnExactParseInstr.Tabs w) :
    Calls Tryd.prog 8 #[.string a0] w fun e w' => e = .returned (.bool r) ∧ Below w.heap.size w w' := by
  have HTAB := Aside0.mk htab
  clear htab
  have hu27 := Tryd.underlying27
  have HB := Aside0.mk (Below.refl w.heap.size w)
  have H : (if (a0.size : Int) > 1048576 then (some true) else ((spec_ParseInstr.f k a0).bind fun bt220 => ((impl_ParseInstr.f k a0).bind fun bt228 => ((laws_eqInstr.f bt228.1 bt228.2.1 bt228.2.2.1 bt228.2.2.2.1 bt228.2.2.2.2.1 bt228.2.2.2.2.2.1 bt220.1 bt220.2.1 bt220.2.2.1 bt220.2.2.2.1 bt220.2.2.2.2.1 bt220.2.2.2.2.2.1).bind fun t236 => (if t236 = true then (if (bt228.2.2.2.2.2.2 != bt220.2.2.2.2.2.2) = true then (none) else (some true)) else (none)))))) = some r := h
  clear h
  by_cases c2 : (a0.size : Int) > 1048576
  · rw [if_pos c2] at H
    have c2b0 : decide (1048576 < (a0.size : Int)) = true := decide_eq_true c2
    have c2b1 : decide (1048576 < a0.size) = true := decide_eq_true (by omega)
    clear c2
    obtain rfl := Option.some.inj H
    go_enter Tryd.func8, Tryd.ntmps8
    go_wp2
    go_ret
    exact ⟨by first | rfl | (simp [errW_none, errW_some] <;> rfl) | (simp [*, errW_none, errW_some] <;> rfl), by repeat (first | (with_reducible first | exact HB.out | apply below_alloc | apply pw_below_drewN | apply below_drew1) | exact HB.out)⟩
  · rw [if_neg c2] at H
    have c2b0 : decide (1048576 < (a0.size : Int)) = false := decide_eq_false c2
    have c2b1 : decide (1048576 < a0.size) = false := decide_eq_false (by omega)
    clear c2
    replace H := Option.bind_eq_some_iff.mp H
    obtain ⟨⟨t220, t221, t222, t223, t224, t225, t226⟩, A30, H⟩ := H
    replace H : ((impl_ParseInstr.f k a0).bind fun bt228 => ((laws_eqInstr.f bt228.1 bt228.2.1 bt228.2.2.1 bt228.2.2.2.1 bt228.2.2.2.2.1 bt228.2.2.2.2.2.1 t220 t221 t222 t223 t224 t225).bind fun t236 => (if t236 = true then (if (bt228.2.2.2.2.2.2 != t226) = true then (none) else (some true)) else (none)))) = some r := H
    have A3 := Aside0.mk A30
    clear A30
    replace H := Option.bind_eq_some_iff.mp H
    obtain ⟨⟨t228, t229, t230, t231, t232, t233, t234⟩, A40, H⟩ := H
    replace H : ((laws_eqInstr.f t228 t229 t230 t231 t232 t233 t220 t221 t222 t223 t224 t225).bind fun t236 => (if t236 = true then (if (t234 != t226) = true then (none) else (some true)) else (none))) = some r := H
    have A4 := Aside0.mk A40
    clear A40
    replace H := Option.bind_eq_some_iff.mp H
    obtain ⟨t236, A50, H⟩ := H
    replace H : (if t236 = true then (if (t234 != t226) = true then (none) else (some true)) else (none)) = some r := H
    have A5 := Aside0.mk A50
    clear A50
    by_cases c6 : t236 = true
    · subst c6
      have H1 : (if (t234 != t226) = true then (none) else (some true)) = some r := by rw [if_pos rfl] at H; exact H
      clear H
      have H := H1
      clear H1
      by_cases c7 : (t234 != t226) = true
      · rw [if_pos c7] at H
        exact absurd H (by simp)
      · rw [if_neg c7] at H
        have c7b0 : (t234 != t226) = false := by simpa using c7
        (try (have c7b1 : decide (t234 = t226) = true := by simpa using c7))
        (try (have c7b2 : (t234 == t226) = true := by simpa using c7))
        clear c7
        obtain rfl := Option.some.inj H
        go_enter Tryd.func8, Tryd.ntmps8
        go_wp2_with (first | ((with_reducible refine gate_callee (f := 35) rfl ?_); refine goesL_ (some 12) rfl rfl Tryd.func35 (by kernel_rfl) rfl #[.string a0] rfl (by (try simp only [List.map_toArray, List.map_cons, List.map_nil]); first | done | rfl | (simp only [List.length_drop, List.length_take]; rfl)) ?_; (with_reducible refine (spec_ParseInstr.calls k a0 t220 t221 t222 t223 t224 t225 t226 _ A3.out).mono ?_); rintro e w8 ⟨rfl, hb⟩; refine ⟨_, rfl, ?_⟩; have n0_ := Aside0.mk (below_step (by repeat (first | (with_reducible first | exact HB.out | apply below_alloc | apply pw_below_drewN | apply below_drew1) | exact HB.out)) hb); clear HB; have HB := n0_; clear n0_; (try clear hb); (try clear hb2); (try clear hk); (try clear hi)) | ((with_reducible refine gate_dst (N := 3) rfl ?_); refine box_event ?hg (N := 3) ?hd (cs := #[.int .i64 0, .int .i64 0, .int .i64 0, .int .i64 0, .int .i64 0, .string (⟨#[]⟩ : ByteArray)]) (t := 27) ?hr ?_; (case hd => rfl); (case hg => rfl); (case hr => first | (go_simp; done) | (go_simp; rfl)); intro gb227 hg w9 hbox hb; have n0_ := Aside0.mk (below_step (by repeat (first | (with_reducible first | exact HB.out | apply below_alloc | apply pw_below_drewN | apply below_drew1) | exact HB.out)) hb); have n1_ := Aside0.mk (hbox); have n2_ := Aside0.mk ((by rw [hg]; exact (below_size (by repeat (first | (with_reducible first | exact HB.out | apply below_alloc | apply pw_below_drewN | apply below_drew1) | exact HB.out))) : w.heap.size ≤ gb227)); have n3_ := Aside0.mk ((by rw [hg]; exact (below_size (by repeat (first | (with_reducible first | exact HB.out | apply below_alloc | apply pw_below_drewN | apply below_drew1) | exact HB.out))) : w.heap.size ≤ gb227)); clear HB; have HB := n0_; have BK227 := n1_; have GW227 := n2_; have GE227 := n3_; clear n0_ n1_ n2_ n3_; clear hb hbox hg; have hcz10_0 : w9.cell? ⟨gb227, 0, none⟩ = some (.int .i64 0) := (blk_cell BK227.out 0).trans rfl; have hcz10_1 : w9.cell? ⟨gb227, 1, none⟩ = some (.int .i64 0) := (blk_cell BK227.out 1).trans rfl; have hcz10_2 : w9.cell? ⟨gb227, 2, none⟩ = some (.int .i64 0) := (blk_cell BK227.out 2).trans rfl; have hcz10_3 : w9.cell? ⟨gb227, 3, none⟩ = some (.int .i64 0) := (blk_cell BK227.out 3).trans rfl; have hcz10_4 : w9.cell? ⟨gb227, 4, none⟩ = some (.int .i64 0) := (blk_cell BK227.out 4).trans rfl; have hcz10_5 : w9.cell? ⟨gb227, 5, none⟩ = some (.string (⟨#[]⟩ : ByteArray)) := (blk_cell BK227.out 5).trans rfl; have hfz10_0 := blk_frozen BK227.out 0; have hfz10_1 := blk_frozen BK227.out 1; have hfz10_2 := blk_frozen BK227.out 2; have hfz10_3 := blk_frozen BK227.out 3; have hfz10_4 := blk_frozen BK227.out 4; have hfz10_5 := blk_frozen BK227.out 5) | ((with_reducible refine gate_callee (f := 36) rfl ?_); refine goesL_ (some 17) rfl rfl Tryd.func36 (by kernel_rfl) rfl #[.string a0] rfl (by (try simp only [List.map_toArray, List.map_cons, List.map_nil]); first | done | rfl | (simp only [List.length_drop, List.length_take]; rfl)) ?_; (with_reducible refine (impl_ParseInstr.calls k a0 t228 t229 t230 t231 t232 t233 t234 _ A4.out ?tab3).mono ?_); (case tab3 => exact (HTAB.out).below (by repeat (first | (with_reducible first | exact HB.out | apply below_alloc | apply pw_below_drewN | apply below_drew1 | refine below_set ?_ GE227.out | refine below_set ?_ GE235.out) | exact HB.out))); rintro e w11 ⟨rfl, hb⟩; refine ⟨_, rfl, ?_⟩; have n0_ := Aside0.mk (blk_below (g := gb227) (o := .cells #[.int .i64 t220, .int .i64 t221, .int .i64 t222, .int .i64 t223, .int .i64 t224, .string t225] 27 (0, 0)) (by (with_reducible repeat (first | refine blk_drewN ?_ _ | refine blk_drew ?_ | refine blk_alloc ?_ _)); refine blk_put (cs := #[.int .i64 t220, .int .i64 t221, .int .i64 t222, .int .i64 t223, .int .i64 t224, .string (⟨#[]⟩ : ByteArray)]) ?_ 5 _ rfl; (with_reducible repeat (first | refine blk_drewN ?_ _ | refine blk_drew ?_ | refine blk_alloc ?_ _)); refine blk_put (cs := #[.int .i64 t220, .int .i64 t221, .int .i64 t222, .int .i64 t223, .int .i64 0, .string (⟨#[]⟩ : ByteArray)]) ?_ 4 _ rfl; (with_reducible repeat (first | refine blk_drewN ?_ _ | refine blk_drew ?_ | refine blk_alloc ?_ _)); refine blk_put (cs := #[.int .i64 t220, .int .i64 t221, .int .i64 t222, .int .i64 0, .int .i64 0, .string (⟨#[]⟩ : ByteArray)]) ?_ 3 _ rfl; (with_reducible repeat (first | refine blk_drewN ?_ _ | refine blk_drew ?_ | refine blk_alloc ?_ _)); refine blk_put (cs := #[.int .i64 t220, .int .i64 t221, .int .i64 0, .int .i64 0, .int .i64 0, .string (⟨#[]⟩ : ByteArray)]) ?_ 2 _ rfl; (with_reducible repeat (first | refine blk_drewN ?_ _ | refine blk_drew ?_ | refine blk_alloc ?_ _)); refine blk_put (cs := #[.int .i64 t220, .int .i64 0, .int .i64 0, .int .i64 0, .int .i64 0, .string (⟨#[]⟩ : ByteArray)]) ?_ 1 _ rfl; (with_reducible repeat (first | refine blk_drewN ?_ _ | refine blk_drew ?_ | refine blk_alloc ?_ _)); refine blk_put (cs := #[.int .i64 0, .int .i64 0, .int .i64 0, .int .i64 0, .int .i64 0, .string (⟨#[]⟩ : ByteArray)]) ?_ 0 _ rfl; (with_reducible repeat (first | refine blk_drewN ?_ _ | refine blk_drew ?_ | refine blk_alloc ?_ _)); exact BK227.out) hb); have n1_ := Aside0.mk (below_step (by repeat (first | (with_reducible first | exact HB.out | apply below_alloc | apply pw_below_drewN | apply below_drew1 | refine below_set ?_ GE227.out) | exact HB.out)) hb); clear BK227; clear HB; have BK227 := n0_; have HB := n1_; clear n0_ n1_; (try clear hb); (try clear hb2); (try clear hk); (try clear hi)) | ((with_reducible refine gate_dst (N := 5) rfl ?_); refine box_event ?hg (N := 5) ?hd (cs := #[.int .i64 0, .int .i64 0, .int .i64 0, .int .i64 0, .int .i64 0, .string (⟨#[]⟩ : ByteArray)]) (t := 27) ?hr ?_; (case hd => rfl); (case hg => rfl); (case hr => first | (go_simp; done) | (go_simp; rfl)); intro gb235 hg w12 hbox hb; have n0_ := Aside0.mk (blk_below (g := gb227) (o := .cells #[.int .i64 t220, .int .i64 t221, .int .i64 t222, .int .i64 t223, .int .i64 t224, .string t225] 27 (0, 0)) (by (with_reducible repeat (first | refine blk_drewN ?_ _ | refine blk_drew ?_ | refine blk_alloc ?_ _)); exact BK227.out) hb); have n1_ := Aside0.mk (below_step (by repeat (first | (with_reducible first | exact HB.out | apply below_alloc | apply pw_below_drewN | apply below_drew1 | refine below_set ?_ GE227.out) | exact HB.out)) hb); have n2_ := Aside0.mk (hbox); have n3_ := Aside0.mk ((by rw [hg]; exact (below_size (by repeat (first | (with_reducible first | exact HB.out | apply below_alloc | apply pw_below_drewN | apply below_drew1 | refine below_set ?_ GE227.out) | exact HB.out))) : w.heap.size ≤ gb235)); have n4_ := Aside0.mk ((by rw [hg]; exact (below_size (by repeat (first | (with_reducible first | exact HB.out | apply below_alloc | apply pw_below_drewN | apply below_drew1 | refine below_set ?_ GE227.out) | exact HB.out))) : w.heap.size ≤ gb235)); have n5_ := Aside0.mk ((by rw [hg]; exact Nat.ne_of_lt (blk_lt (g := gb227) (o := .cells #[.int .i64 t220, .int .i64 t221, .int .i64 t222, .int .i64 t223, .int .i64 t224, .string t225] 27 (0, 0)) (by (with_reducible repeat (first | refine blk_drewN ?_ _ | refine blk_drew ?_ | refine blk_alloc ?_ _)); exact BK227.out)) : gb227 ≠ gb235)); have n6_ := Aside0.mk ((by rw [hg]; exact Nat.ne_of_gt (blk_lt (g := gb227) (o := .cells #[.int .i64 t220, .int .i64 t221, .int .i64 t222, .int .i64 t223, .int .i64 t224, .string t225] 27 (0, 0)) (by (with_reducible repeat (first | refine blk_drewN ?_ _ | refine blk_drew ?_ | refine blk_alloc ?_ _)); exact BK227.out)) : gb235 ≠ gb227)); clear BK227; clear HB; have BK227 := n0_; have HB := n1_; have BK235 := n2_; have GW235 := n3_; have GE235 := n4_; have NB227_235 := n5_; have NB235_227 := n6_; clear n0_ n1_ n2_ n3_ n4_ n5_ n6_; clear hb hbox hg; have hnb13 := NB235_227.out; have hnc13 := NB227_235.out; have hcz14_0 : w12.cell? ⟨gb235, 0, none⟩ = some (.int .i64 0) := (blk_cell BK235.out 0).trans rfl; have hcz14_1 : w12.cell? ⟨gb235, 1, none⟩ = some (.int .i64 0) := (blk_cell BK235.out 1).trans rfl; have hcz14_2 : w12.cell? ⟨gb235, 2, none⟩ = some (.int .i64 0) := (blk_cell BK235.out 2).trans rfl; have hcz14_3 : w12.cell? ⟨gb235, 3, none⟩ = some (.int .i64 0) := (blk_cell BK235.out 3).trans rfl; have hcz14_4 : w12.cell? ⟨gb235, 4, none⟩ = some (.int .i64 0) := (blk_cell BK235.out 4).trans rfl; have hcz14_5 : w12.cell? ⟨gb235, 5, none⟩ = some (.string (⟨#[]⟩ : ByteArray)) := (blk_cell BK235.out 5).trans rfl; have hfz14_0 := blk_frozen BK235.out 0; have hfz14_1 := blk_frozen BK235.out 1; have hfz14_2 := blk_frozen BK235.out 2; have hfz14_3 := blk_frozen BK235.out 3; have hfz14_4 := blk_frozen BK235.out 4; have hfz14_5 := blk_frozen BK235.out 5; have hcz15_0 : w12.cell? ⟨gb227, 0, none⟩ = some (.int .i64 t220) := (blk_cell BK227.out 0).trans rfl; have hcz15_1 : w12.cell? ⟨gb227, 1, none⟩ = some (.int .i64 t221) := (blk_cell BK227.out 1).trans rfl; have hcz15_2 : w12.cell? ⟨gb227, 2, none⟩ = some (.int .i64 t222) := (blk_cell BK227.out 2).trans rfl; have hcz15_3 : w12.cell? ⟨gb227, 3, none⟩ = some (.int .i64 t223) := (blk_cell BK227.out 3).trans rfl; have hcz15_4 : w12.cell? ⟨gb227, 4, none⟩ = some (.int .i64 t224) := (blk_cell BK227.out 4).trans rfl; have hcz15_5 : w12.cell? ⟨gb227, 5, none⟩ = some (.string t225) := (blk_cell BK227.out 5).trans rfl; have hfz15_0 := blk_frozen BK227.out 0; have hfz15_1 := blk_frozen BK227.out 1; have hfz15_2 := blk_frozen BK227.out 2; have hfz15_3 := blk_frozen BK227.out 3; have hfz15_4 := blk_frozen BK227.out 4; have hfz15_5 := blk_frozen BK227.out 5) | ((with_reducible refine gate_callee (f := 37) rfl ?_); refine goesL_ (some 22) rfl rfl Tryd.func37 (by kernel_rfl) rfl #[.agg #[.int .i64 t228, .int .i64 t229, .int .i64 t230, .int .i64 t231, .int .i64 t232, .string t233], .agg #[.int .i64 t220, .int .i64 t221, .int .i64 t222, .int .i64 t223, .int .i64 t224, .string t225]] rfl (by (try simp only [List.map_toArray, List.map_cons, List.map_nil]); first | done | rfl | (simp only [List.length_drop, List.length_take]; rfl)) ?_; (with_reducible refine (laws_eqInstr.calls t228 t229 t230 t231 t232 t233 t220 t221 t222 t223 t224 t225 true _ A5.out).mono ?_); rintro e w16 ⟨rfl, hb⟩; refine ⟨_, rfl, ?_⟩; have n0_ := Aside0.mk (blk_below (g := gb227) (o := .cells #[.int .i64 t220, .int .i64 t221, .int .i64 t222, .int .i64 t223, .int .i64 t224, .string t225] 27 (0, 0)) (by (with_reducible repeat (first | refine blk_drewN ?_ _ | refine blk_drew ?_ | refine blk_alloc ?_ _)); refine blk_far ?_ NB227_235.out _; (with_reducible repeat (first | refine blk_drewN ?_ _ | refine blk_drew ?_ | refine blk_alloc ?_ _)); refine blk_far ?_ NB227_235.out _; (with_reducible repeat (first | refine blk_drewN ?_ _ | refine blk_drew ?_ | refine blk_alloc ?_ _)); refine blk_far ?_ NB227_235.out _; (with_reducible repeat (first | refine blk_drewN ?_ _ | refine blk_drew ?_ | refine blk_alloc ?_ _)); refine blk_far ?_ NB227_235.out _; (with_reducible repeat (first | refine blk_drewN ?_ _ | refine blk_drew ?_ | refine blk_alloc ?_ _)); refine blk_far ?_ NB227_235.out _; (with_reducible repeat (first | refine blk_drewN ?_ _ | refine blk_drew ?_ | refine blk_alloc ?_ _)); refine blk_far ?_ NB227_235.out _; (with_reducible repeat (first | refine blk_drewN ?_ _ | refine blk_drew ?_ | refine blk_alloc ?_ _)); exact BK227.out) hb); have n1_ := Aside0.mk (blk_below (g := gb235) (o := .cells #[.int .i64 t228, .int .i64 t229, .int .i64 t230, .int .i64 t231, .int .i64 t232, .string t233] 27 (0, 0)) (by (with_reducible repeat (first | refine blk_drewN ?_ _ | refine blk_drew ?_ | refine blk_alloc ?_ _)); refine blk_put (cs := #[.int .i64 t228, .int .i64 t229, .int .i64 t230, .int .i64 t231, .int .i64 t232, .string (⟨#[]⟩ : ByteArray)]) ?_ 5 _ rfl; (with_reducible repeat (first | refine blk_drewN ?_ _ | refine blk_drew ?_ | refine blk_alloc ?_ _)); refine blk_put (cs := #[.int .i64 t228, .int .i64 t229, .int .i64 t230, .int .i64 t231, .int .i64 0, .string (⟨#[]⟩ : ByteArray)]) ?_ 4 _ rfl; (with_reducible repeat (first | refine blk_drewN ?_ _ | refine blk_drew ?_ | refine blk_alloc ?_ _)); refine blk_put (cs := #[.int .i64 t228, .int .i64 t229, .int .i64 t230, .int .i64 0, .int .i64 0, .string (⟨#[]⟩ : ByteArray)]) ?_ 3 _ rfl; (with_reducible repeat (first | refine blk_drewN ?_ _ | refine blk_drew ?_ | refine blk_alloc ?_ _)); refine blk_put (cs := #[.int .i64 t228, .int .i64 t229, .int .i64 0, .int .i64 0, .int .i64 0, .string (⟨#[]⟩ : ByteArray)]) ?_ 2 _ rfl; (with_reducible repeat (first | refine blk_drewN ?_ _ | refine blk_drew ?_ | refine blk_alloc ?_ _)); refine blk_put (cs := #[.int .i64 t228, .int .i64 0, .int .i64 0, .int .i64 0, .int .i64 0, .string (⟨#[]⟩ : ByteArray)]) ?_ 1 _ rfl; (with_reducible repeat (first | refine blk_drewN ?_ _ | refine blk_drew ?_ | refine blk_alloc ?_ _)); refine blk_put (cs := #[.int .i64 0, .int .i64 0, .int .i64 0, .int .i64 0, .int .i64 0, .string (⟨#[]⟩ : ByteArray)]) ?_ 0 _ rfl; (with_reducible repeat (first | refine blk_drewN ?_ _ | refine blk_drew ?_ | refine blk_alloc ?_ _)); exact BK235.out) hb); have n2_ := Aside0.mk (below_step (by repeat (first | (with_reducible first | exact HB.out | apply below_alloc | apply pw_below_drewN | apply below_drew1 | refine below_set ?_ GE227.out | refine below_set ?_ GE235.out) | exact HB.out)) hb); clear BK227; clear BK235; clear HB; have BK227 := n0_; have BK235 := n1_; have HB := n2_; clear n0_ n1_ n2_; (try clear hb); (try clear hb2); (try clear hk); (try clear hi)))
        go_ret
        exact ⟨by first | rfl | (simp [errW_none, errW_some] <;> rfl) | (simp [*, errW_none, errW_some] <;> rfl), by repeat (first | (with_reducible first | exact HB.out | apply below_alloc | apply pw_below_drewN | apply below_drew1 | refine below_set ?_ GE227.out | refine below_set ?_ GE235.out) | exact HB.out)⟩
    · replace c6 := Bool.eq_false_iff.mpr c6
      subst c6
      have H1 : (none) = some r := by rw [if_neg (show ¬ (false = true) by decide)] at H; exact H
      clear H
      have H := H1
      clear H1
      exact absurd H (by simp)

/-- THE ONE PURE STATEMENT of laws_FnExactParseInstr: yours. -/
def laws_FnExactParseInstr.Pure : Prop := ∀ (a0 : ByteArray), a0.size ≤ 140737488351232 → ∃ k, laws_FnExactParseInstr.f k a0 = some true

end Go.Proofs.YtmipaoobkjppdaaDoor.QFnExactParseInstr
