/- Contracts of the program's functions as Lean functions, for FnLru, part 2 (printed by wip/mkprint.py over the kit's print.py; what that refuses is written by hand in wip/manual). -/
import Derived.Test.YtkaahabgbngodaaFnLruC1
import Derived.Deep.RegionLaw

namespace Go.Proofs.Ytkaahabgbngodaa.Core
open Go.RowKit Go.Proofs.YtkaahabgbngodaaW.PrintWords Go.Proofs.YtkaahabgbngodaaW.PrintLast Go.Proofs.YtkaahabgbngodaaW.PrintMore
attribute [local go_sem] max2_int min2_int max_two min_two max_three min_three max_four min_four   -- for this text's walks alone
set_option linter.unusedVariables false
set_option linter.unusedSimpArgs false

/-! ### impl_copyRow: function 79 -/
def impl_copyRow.f (a0_0 : Int) (a0_1 : Int) (l0_2 : List (S120)) : Option (Int × Int × (List (S120))) := (impl_copyItems.f l0_2).bind fun t223 => (some (a0_0, a0_1, t223))
def impl_copyRow.T1 : Bool × List (List Nat × List Nat) := (true, [([], []), ([0], [0]), ([], []), ([2], [2]), ([], []), ([4], [4]), ([5], [5]), ([1, 3, 6], [1, 3, 6]), ([7, 6, 0, 1, 2, 3, 4, 5, 6, 7], [7])])
def impl_copyRow.B1 : List Nat := [0, 1, 0, 4, 0, 16, 48, 127, 255]
theorem impl_copyRow.tab1 : rtab .any (opsOf Try.f79 1) = impl_copyRow.T1 := by kernel_rfl
theorem impl_copyRow.bits1 : waitsOk impl_copyRow.T1.2 impl_copyRow.B1 = true := by kernel_rfl
set_option maxHeartbeats 8000000 in
set_option maxRecDepth 100000 in
theorem impl_copyRow.calls (a0_0 : Int) (a0_1 : Int) (A0_2 : Option Addr) (c0_2 : Nat) (l0_2 : List (S120)) (r1 : Int) (r2 : Int) (r3 : List (S120)) (w : World) (hr0_2 : Kd.C k120 w A0_2 l0_2.length l0_2) (hc0_2 : l0_2.length ≤ c0_2) (h : impl_copyRow.f a0_0 a0_1 l0_2 = some (r1, r2, r3)) :
    Calls Try.prog 79 #[.agg #[.int .i64 a0_0, .int .i64 a0_1, .slice A0_2 l0_2.length c0_2]] w fun e w' => ∃ v2_ : Value, e = .returned (.agg #[.int .i64 r1, .int .i64 r2, v2_]) ∧ Kd.R k120 120 w' w.heap.size (fun _ => True) v2_ r3 ∧ Below w.heap.size w w' := by
  have hu34 := Try.underlying34
  have HR0_2 := Aside0.mk hr0_2
  have HC0_2 := Aside0.mk hc0_2
  clear hr0_2 hc0_2
  have HB := Aside0.mk (Below.refl w.heap.size w)
  have H : ((impl_copyItems.f l0_2).bind fun t223 => (some (a0_0, a0_1, t223))) = some (r1, r2, r3) := h
  clear h
  replace H := Option.bind_eq_some_iff.mp H
  obtain ⟨t223, A20, H⟩ := H
  replace H : (some (a0_0, a0_1, t223)) = some (r1, r2, r3) := H
  have A2 := Aside0.mk A20
  clear A20
  simp only [Option.some.injEq, Prod.mk.injEq] at H
  obtain ⟨rfl, rfl, rfl⟩ := H
  go_enter Try.func79, Try.ntmps79
  try go_wp2_with (first | ((with_reducible refine gate_dst (N := 1) rfl ?_); refine box_event ?hg (N := 1) ?hd (cs := #[.int .i64 a0_0, .int .i64 a0_1, .slice A0_2 l0_2.length c0_2]) (t := 34) ?hr ?_; (case hd => rfl); (case hg => rfl); (case hr => first | (go_simp; done) | (go_simp; rfl)); intro gb221 hg w3 hbox hb; have n0_ := Aside0.mk (below_step (by repeat (first | (with_reducible first | exact HB.out | apply below_alloc | apply pw_below_drewN | apply below_drew1) | exact HB.out)) hb); have n1_ := Aside0.mk (hbox); have n2_ := Aside0.mk ((by rw [hg]; exact (below_size (by repeat (first | (with_reducible first | exact HB.out | apply below_alloc | apply pw_below_drewN | apply below_drew1) | exact HB.out))) : w.heap.size ≤ gb221)); have n3_ := Aside0.mk ((by rw [hg]; exact (below_size (by repeat (first | (with_reducible first | exact HB.out | apply below_alloc | apply pw_below_drewN | apply below_drew1) | exact HB.out))) : w.heap.size ≤ gb221)); clear HB; have HB := n0_; have BK221 := n1_; have GW221 := n2_; have GE221 := n3_; clear n0_ n1_ n2_ n3_; clear hb hbox hg) | ((with_reducible refine gate_dst (N := 2) rfl ?_); refine box_event ?hg (N := 2) ?hd (cs := #[.int .i64 0, .int .i64 0, .slice none 0 0]) (t := 34) ?hr ?_; (case hd => rfl); (case hg => rfl); (case hr => first | (go_simp; done) | (go_simp; rfl)); intro gb222 hg w4 hbox hb; have n0_ := Aside0.mk (blk_below (g := gb221) (o := .cells #[.int .i64 a0_0, .int .i64 a0_1, .slice A0_2 l0_2.length c0_2] 34 (0, 0)) (by (with_reducible repeat (first | refine blk_drewN ?_ _ | refine blk_drew ?_ | refine blk_alloc ?_ _)); exact BK221.out) hb); have n1_ := Aside0.mk (below_step (by repeat (first | (with_reducible first | exact HB.out | apply below_alloc | apply pw_below_drewN | apply below_drew1 | refine below_set ?_ GE221.out) | exact HB.out)) hb); have n2_ := Aside0.mk (hbox); have n3_ := Aside0.mk ((by rw [hg]; exact (below_size (by repeat (first | (with_reducible first | exact HB.out | apply below_alloc | apply pw_below_drewN | apply below_drew1 | refine below_set ?_ GE221.out) | exact HB.out))) : w.heap.size ≤ gb222)); have n4_ := Aside0.mk ((by rw [hg]; exact (below_size (by repeat (first | (with_reducible first | exact HB.out | apply below_alloc | apply pw_below_drewN | apply below_drew1 | refine below_set ?_ GE221.out) | exact HB.out))) : w.heap.size ≤ gb222)); have n5_ := Aside0.mk ((by rw [hg]; exact Nat.ne_of_lt (blk_lt (g := gb221) (o := .cells #[.int .i64 a0_0, .int .i64 a0_1, .slice A0_2 l0_2.length c0_2] 34 (0, 0)) (by (with_reducible repeat (first | refine blk_drewN ?_ _ | refine blk_drew ?_ | refine blk_alloc ?_ _)); exact BK221.out)) : gb221 ≠ gb222)); have n6_ := Aside0.mk ((by rw [hg]; exact Nat.ne_of_gt (blk_lt (g := gb221) (o := .cells #[.int .i64 a0_0, .int .i64 a0_1, .slice A0_2 l0_2.length c0_2] 34 (0, 0)) (by (with_reducible repeat (first | refine blk_drewN ?_ _ | refine blk_drew ?_ | refine blk_alloc ?_ _)); exact BK221.out)) : gb222 ≠ gb221)); clear BK221; clear HB; have BK221 := n0_; have HB := n1_; have BK222 := n2_; have GW222 := n3_; have GE222 := n4_; have NB221_222 := n5_; have NB222_221 := n6_; clear n0_ n1_ n2_ n3_ n4_ n5_ n6_; clear hb hbox hg))
  have n0_ := Aside0.mk (blk_drew BK221.out)
  have n1_ := Aside0.mk (blk_drew BK222.out)
  have n2_ := Aside0.mk (below_drew1 HB.out)
  clear BK221
  clear BK222
  clear HB
  have BK221 := n0_
  have BK222 := n1_
  have HB := n2_
  clear n0_ n1_ n2_
  refine start_ (n := 9) (S := fun w' => w'.cell? ⟨gb221, 0, none⟩ = some (.int .i64 a0_0) ∧ w'.cell? ⟨gb221, 1, none⟩ = some (.int .i64 a0_1) ∧ w'.cell? ⟨gb221, 2, none⟩ = some (.slice A0_2 l0_2.length c0_2)) (ds := []) #[false, false, false, false, false, false, false, false, false] (by kernel_rfl) rfl rfl ⟨(blk_cell BK221.out 0).trans rfl, (blk_cell BK221.out 1).trans rfl, (blk_cell BK221.out 2).trans rfl⟩ (fun hHeld => ?_); refine with_tabW impl_copyRow.tab1 impl_copyRow.bits1 (fun HT_ HW_ => ?_)
  generalize w4.drew = w5 at BK221 BK222 HB hHeld ⊢
  refine pure_ (i := 0) (N := some 3) (v := ?_) (a' := ?_) #[true, false, false, false, false, false, false, false, false] rfl rfl (any_of HT_.out (by kernel_rfl)) (fun _ _ _ h => h) (Or.inl ⟨by rfl, ?_⟩) ?_ ?_
  rotate_left
  · intro w'
    go_simp
    with_reducible rfl
  rotate_left
  · simp only [Act.put, List.setIfInBounds_toArray, List.set_cons_zero, List.set_cons_succ, i64_w, i32_w]
    rfl
  refine pure_ (i := 2) (N := some 5) (v := ?_) (a' := ?_) #[true, false, true, false, false, false, false, false, false] rfl rfl (any_of HT_.out (by kernel_rfl)) (fun _ _ _ h => h) (Or.inl ⟨by rfl, ?_⟩) ?_ ?_
  rotate_left
  · intro w'
    go_simp
    with_reducible rfl
  rotate_left
  · simp only [Act.put, List.setIfInBounds_toArray, List.set_cons_zero, List.set_cons_succ, i64_w, i32_w]
    rfl
  refine pure_ (i := 4) (N := some 7) (v := ?_) (a' := ?_) #[true, false, true, false, true, false, false, false, false] rfl rfl (any_of HT_.out (by kernel_rfl)) (fun _ _ _ h => h) (Or.inl ⟨by rfl, ?_⟩) ?_ ?_
  rotate_left
  · intro w'
    go_simp
    with_reducible rfl
  rotate_left
  · simp only [Act.put, List.setIfInBounds_toArray, List.set_cons_zero, List.set_cons_succ, i64_w, i32_w]
    rfl
  refine take_ (i := 1) (N := some 4) (v := ?_) (a' := ?_) #[true, true, true, false, true, false, false, false, false] rfl rfl (take_ofW HT_.out HW_.out (by kernel_rfl)) (fun _ _ _ h => h) (Or.inl ⟨by rfl, ?_⟩) hHeld ?_ ?_
  rotate_left
  · rintro w' ⟨s0, s1, s2⟩
    go_simp
    with_reducible rfl
  rotate_left
  · simp only [Act.put, List.setIfInBounds_toArray, List.set_cons_zero, List.set_cons_succ, i64_w, i32_w]
    rfl
  refine take_ (i := 3) (N := some 6) (v := ?_) (a' := ?_) #[true, true, true, true, true, false, false, false, false] rfl rfl (take_ofW HT_.out HW_.out (by kernel_rfl)) (fun _ _ _ h => h) (Or.inl ⟨by rfl, ?_⟩) hHeld ?_ ?_
  rotate_left
  · rintro w' ⟨s0, s1, s2⟩
    go_simp
    with_reducible rfl
  rotate_left
  · simp only [Act.put, List.setIfInBounds_toArray, List.set_cons_zero, List.set_cons_succ, i64_w, i32_w]
    rfl
  refine take_ (i := 5) (N := some 8) (v := ?_) (a' := ?_) #[true, true, true, true, true, true, false, false, false] rfl rfl (take_ofW HT_.out HW_.out (by kernel_rfl)) (fun _ _ _ h => h) (Or.inl ⟨by rfl, ?_⟩) hHeld ?_ ?_
  rotate_left
  · rintro w' ⟨s0, s1, s2⟩
    go_simp
    with_reducible rfl
  rotate_left
  · simp only [Act.put, List.setIfInBounds_toArray, List.set_cons_zero, List.set_cons_succ, i64_w, i32_w]
    rfl
  refine one_ (i := 6) (N := some 9) #[true, true, true, true, true, true, true, false, false] rfl rfl (one_of HT_.out (by kernel_rfl)) (by decide) (fun K hK => ?_)
  refine goes_ Try.func108 (by kernel_rfl) rfl #[.slice A0_2 l0_2.length c0_2] (by rfl) rfl rfl (by (try simp only [List.map_toArray, List.map_cons, List.map_nil]); first | done | rfl | (simp only [List.length_drop, List.length_take]; rfl)) ?_
  with_reducible refine (impl_copyItems.calls _ _ l0_2 t223 _ ?side1 ?side2 A2.out).mono ?_
  (case side1 => repeat (first | exact (Kd.C_below HR0_2.out HB.out) | (with_reducible refine Kd.C_alloc ?_ _) | (with_reducible refine Kd.C_drewN ?_ _) | (with_reducible refine Kd.C_drew ?_)))
  (case side2 => exact HC0_2.out)
  rintro e w6 ⟨v224, rfl, ho0, hb⟩
  refine ⟨_, rfl, ?_⟩
  have n0_ := Aside0.mk (Kd.R_lower ho0 (below_size (by repeat (first | (with_reducible first | exact HB.out | apply below_alloc | apply pw_below_drewN | apply below_drew1 | refine below_set ?_ GE221.out | refine below_set ?_ GE222.out) | exact HB.out))))
  have n1_ := Aside0.mk (blk_below (g := gb221) (o := .cells #[.int .i64 a0_0, .int .i64 a0_1, .slice A0_2 l0_2.length c0_2] 34 (0, 0)) (by (with_reducible repeat (first | refine blk_drewN ?_ _ | refine blk_drew ?_ | refine blk_alloc ?_ _)); exact BK221.out) hb)
  have n2_ := Aside0.mk (blk_below (g := gb222) (o := .cells #[.int .i64 0, .int .i64 0, .slice none 0 0] 34 (0, 0)) (by (with_reducible repeat (first | refine blk_drewN ?_ _ | refine blk_drew ?_ | refine blk_alloc ?_ _)); exact BK222.out) hb)
  have n3_ := Aside0.mk (below_step (by repeat (first | (with_reducible first | exact HB.out | apply below_alloc | apply pw_below_drewN | apply below_drew1 | refine below_set ?_ GE221.out | refine below_set ?_ GE222.out) | exact HB.out)) hb)
  clear BK221
  clear BK222
  clear HB
  have HO225 := n0_
  have BK221 := n1_
  have BK222 := n2_
  have HB := n3_
  clear n0_ n1_ n2_ n3_
  (try clear hb)
  (try clear hb2)
  (try clear hk)
  (try clear hi)
  (try clear ho0)
  obtain ⟨Ao7, co7, eo7⟩ := Kd.R_slice HO225.out
  (first | subst eo7 | (injection eo7 with f1_ f2_ f3_; have f4_ := f1_.symm; have f5_ := f3_.symm; clear f1_ f2_ f3_; subst f4_; subst f5_))
  refine hK.out _ _ ⟨(blk_cell BK221.out 0).trans rfl, (blk_cell BK221.out 1).trans rfl, (blk_cell BK221.out 2).trans rfl⟩ (fun hHeld => ?_)
  clear hK K
  refine norm_ (a' := ?_) ?_ ?_
  rotate_left
  · show Act.put _ (some 9) _ = _
    simp only [Act.put, List.setIfInBounds_toArray, List.set_cons_zero, List.set_cons_succ, i64_w, i32_w]
    rfl
  refine pure_ (i := 7) (N := some 10) (v := ?_) (a' := ?_) #[true, true, true, true, true, true, true, true, false] rfl rfl (any_of HT_.out (by kernel_rfl)) (fun _ _ _ h => h) (Or.inl ⟨by rfl, ?_⟩) ?_ ?_
  rotate_left
  · intro w'
    go_simp
    with_reducible rfl
  rotate_left
  · simp only [Act.put, List.setIfInBounds_toArray, List.set_cons_zero, List.set_cons_succ, i64_w, i32_w]
    rfl
  refine one_ (i := 8) (N := none) #[true, true, true, true, true, true, true, true, true] rfl rfl (one_of HT_.out (by kernel_rfl)) (by decide) (fun K hK => ?_)
  have hs8 : w6.cell? ⟨gb222, 0, none⟩ = some (.int .i64 0) := (blk_cell BK222.out 0).trans rfl
  have hfs8 := blk_frozen BK222.out 0
  have hns8_0 := NB221_222.out
  have hms8_0 := NB222_221.out
  have hs9 : w6.cell? ⟨gb222, 1, none⟩ = some (.int .i64 0) := (blk_cell BK222.out 1).trans rfl
  have hfs9 := blk_frozen BK222.out 1
  have hns9_0 := NB221_222.out
  have hms9_0 := NB222_221.out
  have hs10 : w6.cell? ⟨gb222, 2, none⟩ = some (.slice none 0 0) := (blk_cell BK222.out 2).trans rfl
  have hfs10 := blk_frozen BK222.out 2
  have hns10_0 := NB221_222.out
  have hms10_0 := NB222_221.out
  refine skip_ (w1 := ?_) (by rfl) rfl ?_ ?_
  rotate_left
  · go_simp
    rfl
  refine hK.out _ _ ⟨((cell_far (p := ⟨gb222, _, none⟩) NB221_222.out _).trans (((cell_far (p := ⟨gb222, _, none⟩) NB221_222.out _).trans (((cell_far (p := ⟨gb222, _, none⟩) NB221_222.out _).trans (hHeld.1)))))), ((cell_far (p := ⟨gb222, _, none⟩) NB221_222.out _).trans (((cell_far (p := ⟨gb222, _, none⟩) NB221_222.out _).trans (((cell_far (p := ⟨gb222, _, none⟩) NB221_222.out _).trans (hHeld.2.1)))))), ((cell_far (p := ⟨gb222, _, none⟩) NB221_222.out _).trans (((cell_far (p := ⟨gb222, _, none⟩) NB221_222.out _).trans (((cell_far (p := ⟨gb222, _, none⟩) NB221_222.out _).trans (hHeld.2.2))))))⟩ (fun hHeld => ?_)
  clear hK K
  refine done_ (done_of HT_.out (by kernel_rfl)) ?_
  try go_wp2
  refine bodyPost_ret (results_cell_row rfl _ _ gb222 34 #[.int .i64 a0_0, .int .i64 a0_1, .slice Ao7 t223.length co7] (0, 0) _ rfl (by (with_reducible repeat (first | refine blk_drewN ?_ _ | refine blk_drew ?_ | refine blk_alloc ?_ _)); refine blk_put (cs := #[.int .i64 a0_0, .int .i64 a0_1, .slice none 0 0]) ?_ 2 _ rfl; (with_reducible repeat (first | refine blk_drewN ?_ _ | refine blk_drew ?_ | refine blk_alloc ?_ _)); refine blk_put (cs := #[.int .i64 a0_0, .int .i64 0, .slice none 0 0]) ?_ 1 _ rfl; (with_reducible repeat (first | refine blk_drewN ?_ _ | refine blk_drew ?_ | refine blk_alloc ?_ _)); refine blk_put (cs := #[.int .i64 0, .int .i64 0, .slice none 0 0]) ?_ 0 _ rfl; (with_reducible repeat (first | refine blk_drewN ?_ _ | refine blk_drew ?_ | refine blk_alloc ?_ _)); exact BK222.out) Try.underlying34 rfl (by kernel_rfl)) rfl ?_
  exact ⟨_, by first | rfl | (simp [errW_none, errW_some] <;> rfl) | (simp [*, errW_none, errW_some] <;> rfl), by (with_reducible repeat (first | apply Kd.R_alloc | apply Kd.R_drewN | apply Kd.R_drew)); exact Kd.R_mono (Kd.R_far (p := ⟨gb222, 2, none⟩) (Kd.R_far (p := ⟨gb222, 1, none⟩) (Kd.R_far (p := ⟨gb222, 0, none⟩) (Kd.R_types HO225.out BK222.out (by decide)) (fun _ hk => hk.2) (.int .i64 a0_0)) (fun _ hk => hk.2) (.int .i64 a0_1)) (fun _ hk => hk.2) (.slice Ao7 t223.length co7)) (fun _ hk => trivial), by repeat (first | (with_reducible first | exact HB.out | apply below_alloc | apply pw_below_drewN | apply below_drew1 | refine below_set ?_ GE221.out | refine below_set ?_ GE222.out) | exact HB.out)⟩

end Go.Proofs.Ytkaahabgbngodaa.Core

namespace Go.Proofs.Ytkaahabgbngodaa.Core
open Go.RowKit Go.Proofs.YtkaahabgbngodaaW.PrintWords Go.Proofs.YtkaahabgbngodaaW.PrintLast Go.Proofs.YtkaahabgbngodaaW.PrintMore
attribute [local go_sem] max2_int min2_int max_two min_two max_three min_three max_four min_four   -- for this text's walks alone
set_option linter.unusedVariables false
set_option linter.unusedSimpArgs false

/-! ### impl_Item_141: function 141 -/
-- IMPORT Derived.Deep.RegionLaw
theorem run_clear_one {P : Program} (w : World) (t e ty : TypeId) (z : Value) (ht : P.underlying t = some (.slice e)) (hv : ∀ w, (zeroValue e).run P w = .ok z w) (h1 : ∀ v ∈ z.cells, v.oneCell' = true) (b o c : Nat)
    (hc : ∀ j, j < z.cells.size → (w.cell? ⟨b, o + j, none⟩).isSome = true) (hf : ∀ j, j < z.cells.size → w.frozen? ⟨b, o + j, none⟩ = false) :
    (Builtin.clear_ #[t] ty #[.slice (some ⟨b, o, none⟩) 1 c]).run P w = .ok (.tuple #[]) (w.setCells b o z.cells.toList) := by
  have hzc : (Builtin.zeroCells z.cells 1).toList = z.cells.toList := by
    unfold Builtin.zeroCells
    apply List.ext_getElem
    · simp
    · intro i h1 h2
      simp at h1 h2
      simp [Nat.mod_eq_of_lt h2, h2]
  have hst := run_storeCells_cells (P := P) b o z.cells.toList 0 w (by simpa using hc) (by simpa using hf) (by simpa using h1)
  simp only [Nat.add_zero] at hst
  simp [Builtin.clear_, run_underlying ht, hv, hzc, hst]

theorem own_cells {w : World} {base m g c : Nat} {xs : List S120} {ok : Nat → Prop} (h : Kd.R k120 120 w base ok (.slice (some ⟨g, 0, none⟩) m c) xs) : ∃ cur, w.heap[g]? = some (.cells cur 120 (0, 0)) ∧ cur.size = c * 3 := by
  obtain ⟨_, inner, hown, _⟩ := h
  rcases hown.2 with ⟨hv, _⟩ | ⟨g', cap', cur, hv, hb, hh, _, hcm, hcs, htake⟩
  · cases hv
  · injection hv with ha _ hc
    injection ha with ha
    injection ha with hg
    subst hg; subst hc
    exact ⟨cur, hh, hcs⟩

/-- A row stays a row when spare cells behind it are written. -/
theorem R_spare {w : World} {base m g c off : Nat} {xs : List S120} {ok : Nat → Prop} (vs : List Value) (h : Kd.R k120 120 w base ok (.slice (some ⟨g, 0, none⟩) m c) xs) (ho : m * 3 ≤ off) (hfit : off + vs.length ≤ c * 3) :
    Kd.R k120 120 (w.setCells g off vs) base ok (.slice (some ⟨g, 0, none⟩) m c) xs := by
  have hm := (Kd.R_reads' h).1
  obtain ⟨h0, inner, hown, hr⟩ := h
  rcases hown.2 with ⟨hv, _⟩ | ⟨g', cap', cur, hv, hb, hh, hcap, hcm, hcs, htake⟩
  · cases hv
  · injection hv with ha hlen hc
    injection ha with ha
    injection ha with hg
    subst hg; subst hc
    obtain ⟨cur', h3, h4, h5⟩ := setCells_row vs off w cur hh (by rw [hcs]; exact hfit)
    refine ⟨h0, inner, ⟨hown.1, .inr ⟨g, c, cur', by rw [hlen], hb, h3, hcap, hcm, by rw [h4, hcs], ?_⟩⟩, hr.imp_ (fun p q hp => k120.M_move (fun k' hk' => setCells_far vs off k' (fun he => hk'.2 (by simp [Value.ownBlock, he]))) hp)⟩
    rw [h5]
    have hk : k120.sz = 3 := rfl
    rw [hk] at htake ⊢
    have hl : cur.toList.length = c * 3 := by rw [Array.length_toList, hcs, hk]
    rw [List.append_assoc, List.take_append_of_le_length (by rw [List.length_take, hl, Nat.le_min]; omega), List.take_take, Nat.min_eq_left (by omega), htake]
set_option maxHeartbeats 8000000 in
set_option maxRecDepth 100000 in
theorem slices_Delete_Item.mine (g m c k base : Nat) (xs : List S120) (ok : Nat → Prop) (w0 w : World) (HO : Kd.R k120 120 w base ok (.slice (some ⟨g,0,none⟩) (m + 1) c) xs) (hk : k < m + 1) (HB : Below base w0 w) (hbase : base ≤ w.heap.size) :
    Calls Try.prog 141 #[.slice (some ⟨g,0,none⟩) (m + 1) c, .int .i64 k, .int .i64 (k+1)] w fun e w' => e = .returned (.slice (some ⟨g,0,none⟩) m c) ∧ Kd.R k120 120 w' base ok (.slice (some ⟨g,0,none⟩) m c) (xs.eraseIdx k) ∧ Below base w0 w' ∧ w.grownBy w' (some g) := by
  obtain ⟨hn, hnc, hC⟩ := Kd.R_reads' HO
  have hm : xs.length ≤ 9223372036854775807 := hC.2.1
  have HO1 := Aside0.mk HO
  have HB1 := Aside0.mk HB
  have HN := Aside0.mk hn
  have hbg := Aside0.mk (Kd.R_base HO g (by simp [Value.ownBlock]))
  clear HO HB hC
  have hm2 : m + 1 ≤ 9223372036854775807 := by omega
  clear hn hm
  go_enter Try.func141, Try.ntmps141
  go_wp2
  have e1 : (k ≤ c) = True := eq_true (by omega)
  have e2 : (0 ≤ (k : Int) + 1) = True := eq_true (by omega)
  have e3 : ((k : Int) + 1 ≤ (m : Int) + 1) = True := eq_true (by omega)
  have hA : (if c = k + 1 then some (⟨g, 0, none⟩ : Addr) else some ⟨g, (k + 1) * 3, none⟩) = if c = k + 1 then some ⟨g, 0, none⟩ else (some (⟨g, 0, none⟩ : Addr)).map (·.add ((k + 1) * k120.sz)) := by rw [Option.map_some, add_plain]; rfl
  have HA := Aside0.mk hA
  clear hA
  have hi : (Try.prog.info? 120).map (·.size) = some k120.sz := by kernel_rfl
  have HI := Aside0.mk hi
  clear hi
  have HM := Aside0.mk (show m - k = m + 1 - (k + 1) by omega)
  go_region_law (refine Kd.R_delete_step k120 (w0 := w0) base rfl (.tmp 22) (.tmp 25) 32 120 rfl Try.underlying32 HI.out (g := g) (n := m + 1) (c := c) (k := k) (xs := xs) (ok := ok) rfl rfl HA.out HM.out (Kd.R_drew HO1.out) hk HB1.out.drew hbase (fun w1 ho hb hg => ?_))
  obtain ⟨cur, hh, hcs⟩ := own_cells ho
  have ho1 := Aside0.mk ho
  have hb1 := Aside0.mk hb
  have hg1 := Aside0.mk hg
  have hh1 := Aside0.mk hh
  clear ho hb hg e1 e2 e3
  have hcl : (Builtin.clear_ #[32] 0 #[.slice (some ⟨g, m * 3, none⟩) 1 (c - m)]).run Try.prog w1 = .ok (.tuple #[]) (w1.setCells g (m * 3) [.string ⟨#[]⟩, .string ⟨#[]⟩, .int .i64 0]) :=
    run_clear_one w1 32 120 0 (.agg #[.string ⟨#[]⟩, .string ⟨#[]⟩, .int .i64 0]) Try.underlying32 (fun w => by kernel_rfl) (by decide) g (m * 3) (c - m) (fun j hj => by rw [cell_of_row w1 g _ cur 120 (0, 0) hh]; simp [hcs]; simp [Value.cells] at hj; omega) (fun j hj => blk_frozen hh _)
  clear hh
  go_wp2
  all_goals
    try (have h' : c = k + 1 := by assumption
         subst h')
    go_ret
    obtain ⟨s1, s2, s3, s4⟩ := setCells_same g [.string ⟨#[]⟩, .string ⟨#[]⟩, .int .i64 0] (m * 3) w1
    have hfar : ∀ k', k' ≠ g → (w1.setCells g (m * 3) [.string ⟨#[]⟩, .string ⟨#[]⟩, .int .i64 0]).heap[k']? = w1.heap[k']? := fun k' hk' => setCells_far _ _ k' hk'
    refine ⟨rfl, R_spare _ (by simpa using ho1.out) (Nat.le_refl _) (by simp; omega), hb1.out.trans ⟨s1, s2, s3, by rw [s4]; exact Nat.le_refl _, fun k' hk' => hfar k' (by have := hbg.out; omega)⟩, ?_⟩
    have hg2 : w.grownBy w1 (some g) := ⟨hg1.out.os, hg1.out.tape, hg1.out.output, hg1.out.size, hg1.out.block⟩
    exact hg2.trans ⟨s1, s2, s3, by rw [s4]; exact Nat.le_refl _, fun k' _ hk' => hfar k' (fun he => hk' (by rw [he]))⟩

end Go.Proofs.Ytkaahabgbngodaa.Core

namespace Go.Proofs.Ytkaahabgbngodaa.Core
open Go.RowKit Go.Proofs.YtkaahabgbngodaaW.PrintWords Go.Proofs.YtkaahabgbngodaaW.PrintLast Go.Proofs.YtkaahabgbngodaaW.PrintMore
attribute [local go_sem] max2_int min2_int max_two min_two max_three min_three max_four min_four   -- for this text's walks alone
set_option linter.unusedVariables false
set_option linter.unusedSimpArgs false

/-! ### impl_Row_asked: function 81 -/
/-- The cells of an element of a row of the call's own, whose block is told. -/
theorem own_elem {w : World} {base n g c : Nat} {xs : List S120} {ok : Nat → Prop} (h : Kd.R k120 120 w base ok (.slice (some ⟨g, 0, none⟩) n c) xs) (k : Nat) (hk : k < xs.length) :
    w.cell? ⟨g, k * 3, none⟩ = some (.string (rd_T120 xs k).f0) ∧ w.cell? ⟨g, k * 3 + 1, none⟩ = some (.string (rd_T120 xs k).f1) ∧ w.cell? ⟨g, k * 3 + 2, none⟩ = some (.int .i64 (rd_T120 xs k).f2) := by
  obtain ⟨hn, _, hC⟩ := Kd.R_reads' h
  obtain ⟨ad, e, h0, h1, h2⟩ := at_T120 hC k (by omega) (by omega)
  injection e with e
  subst e
  simp only [Int.toNat_natCast, add_plain] at h0 h1 h2
  exact ⟨h0, h1, h2⟩
theorem own_form {w : World} {base : Nat} {V : Value} {xs : List S120} {ok : Nat → Prop} (h : Kd.R k120 120 w base ok V xs) (hp : 0 < xs.length) : ∃ g c, V = .slice (some ⟨g, 0, none⟩) xs.length c ∧ xs.length ≤ c ∧ base ≤ g ∧ g < w.heap.size := by
  obtain ⟨_, inner, hown, hr⟩ := h
  rcases hown.2 with ⟨hv, h0⟩ | ⟨g', cap', cur, hv, hb, hh, hc, hcm, hcs, htake⟩
  · omega
  · exact ⟨g', cap', hv, hc, hb, (Array.getElem?_eq_some_iff.1 hh).1⟩
theorem own_put1 {W : World} {base n g c : Nat} {xs : List S120} {ok : Nat → Prop} (h : Kd.R k120 120 W base ok (.slice (some ⟨g, 0, none⟩) n c) xs) (k : Nat) (hk : k < xs.length) (s : ByteArray) :
    Kd.R k120 120 (W.setCell ⟨g, k * 3 + 1, none⟩ (.string s)) base ok (.slice (some ⟨g, 0, none⟩) n c) (xs.set k ⟨(rd_T120 xs k).f0, s, (rd_T120 xs k).f2⟩) ∧ W.grownBy (W.setCell ⟨g, k * 3 + 1, none⟩ (.string s)) (some g) := by
  obtain ⟨h0, h1, h2⟩ := own_elem h k hk
  have hn := (Kd.R_reads' h).1
  have := Kd.R_seg h k (by omega) (by omega) (c := [.string (rd_T120 xs k).f0, .string (rd_T120 xs k).f1, .int .i64 (rd_T120 xs k).f2]) (seg := [.string s]) (j := 1) rfl (fun j u hu => by
    rcases j with _ | _ | _ | j
    · simp at hu; subst hu; exact h0
    · simp at hu; subst hu; exact h1
    · simp at hu; subst hu; exact h2
    · simp at hu) (by show 1 + 1 ≤ 3; omega) (x' := ⟨(rd_T120 xs k).f0, s, (rd_T120 xs k).f2⟩) (okp := fun _ => False) (k120_mkM _ _ _ _) (fun _ h => h.elim)
  exact this
theorem own_put2 {W : World} {base n g c : Nat} {xs : List S120} {ok : Nat → Prop} (h : Kd.R k120 120 W base ok (.slice (some ⟨g, 0, none⟩) n c) xs) (k : Nat) (hk : k < xs.length) (s : Int) :
    Kd.R k120 120 (W.setCell ⟨g, k * 3 + 2, none⟩ (.int .i64 s)) base ok (.slice (some ⟨g, 0, none⟩) n c) (xs.set k ⟨(rd_T120 xs k).f0, (rd_T120 xs k).f1, s⟩) ∧ W.grownBy (W.setCell ⟨g, k * 3 + 2, none⟩ (.int .i64 s)) (some g) := by
  obtain ⟨h0, h1, h2⟩ := own_elem h k hk
  have hn := (Kd.R_reads' h).1
  have := Kd.R_seg h k (by omega) (by omega) (c := [.string (rd_T120 xs k).f0, .string (rd_T120 xs k).f1, .int .i64 (rd_T120 xs k).f2]) (seg := [.int .i64 s]) (j := 2) rfl (fun j u hu => by
    rcases j with _ | _ | _ | j
    · simp at hu; subst hu; exact h0
    · simp at hu; subst hu; exact h1
    · simp at hu; subst hu; exact h2
    · simp at hu) (by show 2 + 1 ≤ 3; omega) (x' := ⟨(rd_T120 xs k).f0, (rd_T120 xs k).f1, s⟩) (okp := fun _ => False) (k120_mkM _ _ _ _) (fun _ h => h.elim)
  exact this
theorem own_put0 {W : World} {base n g c : Nat} {xs : List S120} {ok : Nat → Prop} (h : Kd.R k120 120 W base ok (.slice (some ⟨g, 0, none⟩) n c) xs) (k : Nat) (hk : k < xs.length) (s : ByteArray) :
    Kd.R k120 120 (W.setCell ⟨g, k * 3, none⟩ (.string s)) base ok (.slice (some ⟨g, 0, none⟩) n c) (xs.set k ⟨s, (rd_T120 xs k).f1, (rd_T120 xs k).f2⟩) ∧ W.grownBy (W.setCell ⟨g, k * 3, none⟩ (.string s)) (some g) := by
  obtain ⟨h0, h1, h2⟩ := own_elem h k hk
  have hn := (Kd.R_reads' h).1
  have := Kd.R_seg h k (by omega) (by omega) (c := [.string (rd_T120 xs k).f0, .string (rd_T120 xs k).f1, .int .i64 (rd_T120 xs k).f2]) (seg := [.string s]) (j := 0) rfl (fun j u hu => by
    rcases j with _ | _ | _ | j
    · simp at hu; subst hu; exact h0
    · simp at hu; subst hu; exact h1
    · simp at hu; subst hu; exact h2
    · simp at hu) (by show 0 + 1 ≤ 3; omega) (x' := ⟨s, (rd_T120 xs k).f1, (rd_T120 xs k).f2⟩) (okp := fun _ => False) (k120_mkM _ _ _ _) (fun _ h => h.elim)
  exact this
theorem keep_none {w w1 : World} {g : Nat} (h : KeepBut w w1 g none) (row : Option Nat) : KeepBut w w1 g row := ⟨h.1, fun i hi hg _ => h.2 i hi hg (by simp)⟩
def askedRow (kind : Int) (xs : List S120) (k : Nat) : List S120 :=
  if kind = 2 then xs.eraseIdx k ++ [rd_T120 xs k] else if kind = 3 then xs.set k ⟨(rd_T120 xs k).f0, (rd_T120 xs k).f1, 1⟩ else xs
set_option maxHeartbeats 8000000 in
set_option maxRecDepth 100000 in
theorem impl_Row_asked.lru (cap : Int) (g gx c : Nat) (xs : List S120) (k : Nat) (hk : k < xs.length) (base : Nat) (w0 w : World)
    (hB : w.heap[g]? = some (.cells #[.int .i64 2, .int .i64 cap, .slice (some ⟨gx, 0, none⟩) xs.length c] 34 (0, 0))) (hO : Kd.R k120 120 w base (fun _ => True) (.slice (some ⟨gx, 0, none⟩) xs.length c) xs) (HB : Below base w0 w) (hbase : base ≤ w.heap.size) (hg : base ≤ g) (hl : xs.length < 1000000) :
    Calls Try.prog 81 #[.pointer (some ⟨g, 0, none⟩), .int .i64 k] w fun e w' => e = .returned (.tuple #[]) ∧ ∃ V', w'.heap[g]? = some (.cells #[.int .i64 2, .int .i64 cap, V'] 34 (0, 0)) ∧ Kd.R k120 120 w' base (fun _ => True) V' (askedRow 2 xs k) ∧ Below base w0 w' ∧ KeepBut w w' g (some gx) := by
  obtain ⟨x0, x1, x2⟩ := own_elem hO k hk
  have c0 : w.cell? ⟨g, 0, none⟩ = some (.int .i64 2) := (blk_cell hB 0).trans rfl
  have c1 : w.cell? ⟨g, 1, none⟩ = some (.int .i64 cap) := (blk_cell hB 1).trans rfl
  have c2 : w.cell? ⟨g, 2, none⟩ = some (.slice (some ⟨gx, 0, none⟩) xs.length c) := (blk_cell hB 2).trans rfl
  have HBK := Aside0.mk hB
  have HO := Aside0.mk hO
  have HB0 := Aside0.mk HB
  clear hB hO HB
  go_enter Try.func81, Try.ntmps81
  go_wp2
  obtain ⟨m, hm⟩ : ∃ m, xs.length = m + 1 := ⟨xs.length - 1, by omega⟩
  have HBX := Aside0.mk (blk_new w (.cells #[.string (rd_T120 xs k).f0, .string (rd_T120 xs k).f1, .int .i64 (rd_T120 xs k).f2] 120))
  have HBK1 := Aside0.mk (blk_alloc HBK.out (.cells #[.string (rd_T120 xs k).f0, .string (rd_T120 xs k).f1, .int .i64 (rd_T120 xs k).f2] 120))
  have HO1 := Aside0.mk (Kd.R_alloc HO.out (.cells #[.string (rd_T120 xs k).f0, .string (rd_T120 xs k).f1, .int .i64 (rd_T120 xs k).f2] 120))
  have HB1 := Aside0.mk (HB0.out.alloc hbase (.cells #[.string (rd_T120 xs k).f0, .string (rd_T120 xs k).f1, .int .i64 (rd_T120 xs k).f2] 120))
  have HW := Aside0.mk (below_alloc (Below.refl w.heap.size w) (.cells #[.string (rd_T120 xs k).f0, .string (rd_T120 xs k).f1, .int .i64 (rd_T120 xs k).f2] 120))
  clear c0 c1 c2 x0 x1 x2
  have HNE := Aside0.mk (Kd.R_ne HO1.out HBK1.out (by decide))
  have HNX := Aside0.mk (show gx < w.heap.size by have := Kd.R_lt HO.out gx (by simp [Value.ownBlock]); exact this)
  generalize hbx : w.heap.size = bx at *
  generalize w.alloc (.cells #[.string (rd_T120 xs k).f0, .string (rd_T120 xs k).f1, .int .i64 (rd_T120 xs k).f2] 120) = W at *
  have HBX2 := Aside0.mk hbx
  clear hbx
  have s0 : W.cell? ⟨g, 2, none⟩ = some (.slice (some ⟨gx, 0, none⟩) xs.length c) := (blk_cell HBK1.out 2).trans rfl
  have s1 : W.cell? ⟨bx, 0, none⟩ = some (.string (rd_T120 xs k).f0) := (blk_cell HBX.out 0).trans rfl
  have s2 : W.cell? ⟨bx, 1, none⟩ = some (.string (rd_T120 xs k).f1) := (blk_cell HBX.out 1).trans rfl
  have s3 : W.cell? ⟨bx, 2, none⟩ = some (.int .i64 (rd_T120 xs k).f2) := (blk_cell HBX.out 2).trans rfl
  rw [hm] at s0
  have HO2 : Aside0 (Kd.R k120 120 W base (fun _ => True) (.slice (some ⟨gx, 0, none⟩) (m + 1) c) xs) := Aside0.mk (by have := HO1.out; rw [hm] at this; exact this)
  have hke : (rd_T120 xs k).f0 = (rd_T120 xs k).f0 := rfl
  have hbW : bx < W.heap.size := blk_lt HBX.out
  have hgW : g < W.heap.size := blk_lt HBK1.out
  have HWR := Aside0.mk (show wrap64 ((k : Int) + 1) = (k : Int) + 1 by unfold wrap64; omega)
  have HKL := Aside0.mk (And.intro hk hl)
  have HBW : Aside0 (base ≤ W.heap.size) := ⟨by omega⟩
  have HM := Aside0.mk hm
  have NGX := Aside0.mk (show some g ≠ some gx from HNE.out)
  have NBX := Aside0.mk (show some bx ≠ some gx by have := HNX.out; intro h; injection h; omega)
  rw [hm]
  clear hm hke hbW hgW hk hl
  have NWX := Aside0.mk (show some W.drew.heap.size ≠ some gx by intro h; injection h with h; have := HNX.out; have := blk_lt HBX.out; simp at h; omega)
  refine start_ (n := 15) (S := fun w' => w'.cell? ⟨g, 2, none⟩ = some (.slice (some ⟨gx, 0, none⟩) (m + 1) c) ∧ w'.cell? ⟨bx, 0, none⟩ = some (.string (rd_T120 xs k).f0) ∧ w'.cell? ⟨bx, 1, none⟩ = some (.string (rd_T120 xs k).f1) ∧ w'.cell? ⟨bx, 2, none⟩ = some (.int .i64 (rd_T120 xs k).f2)) (ds := [14]) #[false, false, false, false, false, false, false, false, false, false, false, false, false, false, false] (by kernel_rfl) rfl rfl ⟨s0, s1, s2, s3⟩ (fun hHeld => ?_)
  clear s0 s1 s2 s3
  refine pure_ (i := 0) (N := some 18) (v := ?_) (a' := ?_) #[true, false, false, false, false, false, false, false, false, false, false, false, false, false, false] rfl rfl (by kernel_rfl) (fun _ _ _ h => h) (Or.inl ⟨by rfl, ?_⟩) ?_ ?_
  rotate_left
  · intro w'
    go_simp
    with_reducible rfl
  rotate_left
  · simp only [Act.put, List.setIfInBounds_toArray, List.set_cons_zero, List.set_cons_succ, i64_w, i32_w]
    rfl
  refine pure_ (i := 1) (N := some 19) (v := ?_) (a' := ?_) #[true, true, false, false, false, false, false, false, false, false, false, false, false, false, false] rfl rfl (by kernel_rfl) (fun _ _ _ h => h) (Or.inl ⟨by rfl, ?_⟩) ?_ ?_
  rotate_left
  · intro w'
    go_simp
    with_reducible rfl
  rotate_left
  · simp only [Act.put, List.setIfInBounds_toArray, List.set_cons_zero, List.set_cons_succ, i64_w, i32_w]
    rfl
  refine pure_ (i := 2) (N := some 20) (v := ?_) (a' := ?_) #[true, true, true, false, false, false, false, false, false, false, false, false, false, false, false] rfl rfl (by kernel_rfl) (fun _ _ _ h => h) (Or.inl ⟨by rfl, ?_⟩) ?_ ?_
  rotate_left
  · intro w'
    go_simp
    with_reducible rfl
  rotate_left
  · simp only [Act.put, List.setIfInBounds_toArray, List.set_cons_zero, List.set_cons_succ, i64_w, i32_w]
    rfl
  refine pure_ (i := 3) (N := some 21) (v := ?_) (a' := ?_) #[true, true, true, true, false, false, false, false, false, false, false, false, false, false, false] rfl rfl (by kernel_rfl) (fun _ _ _ h => h) (Or.inl ⟨by rfl, ?_⟩) ?_ ?_
  rotate_left
  · intro w'
    go_simp
    with_reducible rfl
  rotate_left
  · simp only [Act.put, List.setIfInBounds_toArray, List.set_cons_zero, List.set_cons_succ, i64_w, i32_w]
    rfl
  refine take_ (i := 4) (N := some 22) (v := ?_) (a' := ?_) #[true, true, true, true, true, false, false, false, false, false, false, false, false, false, false] rfl rfl (by kernel_rfl) (fun _ _ _ h => h) (Or.inl ⟨by rfl, ?_⟩) hHeld ?_ ?_
  rotate_left
  · rintro w' ⟨s0, s1, s2, s3⟩
    go_simp
    with_reducible rfl
  rotate_left
  · simp only [Act.put, List.setIfInBounds_toArray, List.set_cons_zero, List.set_cons_succ, i64_w, i32_w]
    rfl
  refine pure_ (i := 5) (N := some 23) (v := ?_) (a' := ?_) #[true, true, true, true, true, true, false, false, false, false, false, false, false, false, false] rfl rfl (by kernel_rfl) (fun _ _ _ h => h) (Or.inl ⟨by rfl, ?_⟩) ?_ ?_
  rotate_left
  · intro w'
    go_simp
    with_reducible rfl
  rotate_left
  · simp only [Act.put, List.setIfInBounds_toArray, List.set_cons_zero, List.set_cons_succ, i64_w, i32_w]
    rfl
  refine pure_ (i := 6) (N := some 24) (v := ?_) (a' := ?_) #[true, true, true, true, true, true, true, false, false, false, false, false, false, false, false] rfl rfl (by kernel_rfl) (fun _ _ _ h => h) (Or.inl ⟨by rfl, ?_⟩) ?_ ?_
  rotate_left
  · intro w'
    go_simp
    with_reducible rfl
  rotate_left
  · simp only [Act.put, List.setIfInBounds_toArray, List.set_cons_zero, List.set_cons_succ, i64_w, i32_w]
    rfl
  refine pure_ (i := 7) (N := some 25) (v := ?_) (a' := ?_) #[true, true, true, true, true, true, true, true, false, false, false, false, false, false, false] rfl rfl (by kernel_rfl) (fun _ _ _ h => h) (Or.inl ⟨by rfl, ?_⟩) ?_ ?_
  rotate_left
  · intro w'
    go_simp
    with_reducible rfl
  rotate_left
  · simp only [Act.put, List.setIfInBounds_toArray, List.set_cons_zero, List.set_cons_succ, i64_w, i32_w]
    rfl
  refine take_ (i := 9) (N := some 27) (v := ?_) (a' := ?_) #[true, true, true, true, true, true, true, true, false, true, false, false, false, false, false] rfl rfl (by kernel_rfl) (fun _ _ _ h => h) (Or.inl ⟨by rfl, ?_⟩) hHeld ?_ ?_
  rotate_left
  · rintro w' ⟨s0, s1, s2, s3⟩
    go_simp
    with_reducible rfl
  rotate_left
  · simp only [Act.put, List.setIfInBounds_toArray, List.set_cons_zero, List.set_cons_succ, i64_w, i32_w]
    rfl
  refine two_ (i := 8) (j := 10) (Ni := some 26) (Nj := some 28) #[true, true, true, true, true, true, true, true, true, true, false, false, false, false, false] #[true, true, true, true, true, true, true, true, false, true, true, false, false, false, false] rfl rfl rfl rfl (by kernel_rfl) (by decide) (by decide) (fun K hK => ?_) (fun K hK => ?_)
  · refine goes_ Try.func141 (by kernel_rfl) rfl #[.slice (some ⟨gx, 0, none⟩) (m + 1) c, .int .i64 k, .int .i64 (wrap64 (k + 1))] (by rfl) rfl rfl (by (try simp only [List.map_toArray, List.map_cons, List.map_nil]); first | done | rfl) ?_
    rw [HWR.out]
    refine (slices_Delete_Item.mine gx m c k base xs (fun _ => True) w0 _ (Kd.R_drew HO2.out) (by have := HM.out; have := HKL.out.1; omega) HB1.out.drew HBW.out).mono ?_
    rintro e w1 ⟨rfl, ho, hb, hgr⟩
    refine ⟨_, rfl, ?_⟩
    have BK2 := Aside0.mk (blk_grown (blk_drew HBK1.out) hgr NGX.out)
    have BX2 := Aside0.mk (blk_grown (blk_drew HBX.out) hgr NBX.out)
    refine hK.out _ _ ⟨(blk_cell BK2.out 2).trans (by rw [HM.out]; rfl), (blk_cell BX2.out 0).trans rfl, (blk_cell BX2.out 1).trans rfl, (blk_cell BX2.out 2).trans rfl⟩ (fun hHeld => ?_)
    clear hK K
    refine norm_ (a' := ?_) ?_ ?_
    rotate_left
    · show Act.put _ (some 26) _ = _
      simp only [Act.put, List.setIfInBounds_toArray, List.set_cons_zero, List.set_cons_succ, i64_w, i32_w]
      rfl
    refine one_ (i := 10) (N := some 28) #[true, true, true, true, true, true, true, true, true, true, true, false, false, false, false] rfl rfl (by kernel_rfl) (by decide) (fun K hK => ?_)
    refine Kd.R_lit_step k120 (w0 := w0) base 120 rfl (N := 28) rfl (xs := [rd_T120 xs k]) (inner := [.string (rd_T120 xs k).f0, .string (rd_T120 xs k).f1, .int .i64 (rd_T120 xs k).f2]) (ok := fun _ => True) (okp := fun _ => True) ?hr (Reps.c3 (k120_mkM _ _ _ (rd_T120 xs k)) (Reps.none _ _)) (fun _ hk => hk) trivial hb (Nat.le_trans HBW.out hgr.size) (by simp) (fun v2 w2 ho2 hb2 hg2 hn2 => ?_)
    (case hr => first | (go_simp; done) | (go_simp; rfl))
    have BK3 := Aside0.mk (blk_grown BK2.out hg2 (by simp))
    have BX3 := Aside0.mk (blk_grown BX2.out hg2 (by simp))
    have HO3 := Aside0.mk (Kd.R_grown ho hg2 (fun _ _ => by simp))
    obtain ⟨A2, c2, rfl⟩ := Kd.R_slice ho2
    refine hK.out _ _ ⟨(blk_cell BK3.out 2).trans (by rw [HM.out]; rfl), (blk_cell BX3.out 0).trans rfl, (blk_cell BX3.out 1).trans rfl, (blk_cell BX3.out 2).trans rfl⟩ (fun hHeld => ?_)
    clear hK K
    refine norm_ (a' := ?_) ?_ ?_
    rotate_left
    · show Act.put _ (some 28) _ = _
      simp only [Act.put, List.setIfInBounds_toArray, List.set_cons_zero, List.set_cons_succ, i64_w, i32_w]
      rfl
    refine one_ (i := 11) (N := some 29) #[true, true, true, true, true, true, true, true, true, true, true, true, false, false, false] rfl rfl (by kernel_rfl) (by decide) (fun K hK => ?_)
    refine Kd.R_append_rows_step k120 (Rr := k120.K w2) (w0 := w0) base rfl (.tmp 26) (.tmp 28) 32 120 (.agg #[(.string ⟨#[]⟩), (.string ⟨#[]⟩), (.int .i64 0)]) 40 rfl Try.underlying32 info120 rfl (by decide) (by omega) (.slice (some ⟨gx, 0, none⟩) m c) (xs.eraseIdx k) [rd_T120 xs k] _ _ _ (fun _ => True) (fun _ => False) rfl rfl HO3.out (Kd.R_reads' ho2).2.2 (fun _ _ h => h) (fun _ h => h.elim) (fun _ _ => trivial) hb2 (by exact Nat.le_trans (Nat.le_trans HBW.out hgr.size) hg2.size) ?_ (fun v1 w3 ho3 hb3 hg3 hat3 => ?_)
    · have := HKL.out
      rw [List.length_eraseIdx]
      simp
      split <;> omega
    refine hK.out _ _ ⟨(blk_cell (blk_grown BK3.out hg3 NGX.out) 2).trans (by rw [HM.out]; rfl), (blk_cell (blk_grown BX3.out hg3 NBX.out) 0).trans rfl, (blk_cell (blk_grown BX3.out hg3 NBX.out) 1).trans rfl, (blk_cell (blk_grown BX3.out hg3 NBX.out) 2).trans rfl⟩ (fun hHeld => ?_)
    clear hK K
    obtain ⟨A3, c3, rfl⟩ := Kd.R_slice ho3
    refine norm_ (a' := ?_) ?_ ?_
    rotate_left
    · show Act.put _ (some 29) _ = _
      simp only [Act.put, List.setIfInBounds_toArray, List.set_cons_zero, List.set_cons_succ, i64_w, i32_w]
      rfl
    refine pure_ (i := 12) (N := some 30) (v := ?_) (a' := ?_) #[true, true, true, true, true, true, true, true, true, true, true, true, true, false, false] rfl rfl (by kernel_rfl) (fun _ _ _ h => h) (Or.inl ⟨by rfl, ?_⟩) ?_ ?_
    rotate_left
    · intro w'
      go_simp
      with_reducible rfl
    rotate_left
    · simp only [Act.put, List.setIfInBounds_toArray, List.set_cons_zero, List.set_cons_succ, i64_w, i32_w]
      rfl
    refine pure_ (i := 13) (N := some 31) (v := ?_) (a' := ?_) #[true, true, true, true, true, true, true, true, true, true, true, true, true, true, false] rfl rfl (by kernel_rfl) (fun _ _ _ h => h) (Or.inl ⟨by rfl, ?_⟩) ?_ ?_
    rotate_left
    · intro w'
      go_simp
      with_reducible rfl
    rotate_left
    · simp only [Act.put, List.setIfInBounds_toArray, List.set_cons_zero, List.set_cons_succ, i64_w, i32_w]
      rfl
    refine last_ (i := 14) (N := none) #[true, true, true, true, true, true, true, true, true, true, true, true, true, true, true] rfl rfl (by kernel_rfl) (by decide) (fun K hK => ?_)
    have BK4 := Aside0.mk (blk_grown BK3.out hg3 NGX.out)
    have s2 : w3.cell? ⟨g, 2, none⟩ = some (.slice (some ⟨gx, 0, none⟩) xs.length c) := (blk_cell BK4.out 2).trans rfl
    have f2 : w3.frozen? ⟨g, 2, none⟩ = false := blk_frozen BK4.out 2
    refine skip_ rfl rfl (w1 := w3.setCell ⟨g, 2, none⟩ (.slice A3 (xs.eraseIdx k ++ [rd_T120 xs k]).length c3)) (by go_simp) ?_
    refine hK.out _ _ ?_
    clear hK K
    refine done_ (by kernel_rfl) ?_
    have ho4 := Aside0.mk ho3
    have hb4 := Aside0.mk hb3
    have hk4 : Aside0 (KeepBut w w3 g (some gx)) := ⟨KeepBut.trans (KeepBut.trans (KeepBut.trans (KeepBut.of_below (show Below w.heap.size w W.drew from HBX2.out ▸ HW.out.drew) g (some gx)) (KeepBut.of_grown hgr g) (.inl rfl)) (keep_none (KeepBut.of_grown hg2 g) (some gx)) (.inl rfl)) (KeepBut.of_grown hg3 g) (.inl rfl)⟩
    clear s2 f2 ho3 hb3 hg3 hat3
    go_wp2
    go_end0
    have hae : askedRow 2 xs k = xs.eraseIdx k ++ [rd_T120 xs k] := by simp [askedRow]
    refine ⟨rfl, _, blk_put BK4.out 2 _ rfl, ?_, hb4.out.setCell (by exact hg) _, hk4.out.set_ 2 _⟩
    rw [hae]
    exact Kd.R_set ho4.out BK4.out (by decide) 2 _
  · refine Kd.R_lit_step k120 (w0 := w0) base 120 rfl (N := 28) rfl (xs := [rd_T120 xs k]) (inner := [.string (rd_T120 xs k).f0, .string (rd_T120 xs k).f1, .int .i64 (rd_T120 xs k).f2]) (ok := fun b => some b ≠ some gx) (okp := fun b => some b ≠ some gx) ?hr (Reps.c3 (k120_mkM _ _ _ (rd_T120 xs k)) (Reps.none _ _)) (fun _ hk => hk) (show some W.drew.heap.size ≠ some gx from NWX.out) HB1.out.drew HBW.out (by simp) (fun v2 w2 ho2 hb2 hg2 hn2 => ?_)
    (case hr => first | (go_simp; done) | (go_simp; rfl))
    have BK2 := Aside0.mk (blk_grown (blk_drew HBK1.out) hg2 (by simp))
    have BX2 := Aside0.mk (blk_grown (blk_drew HBX.out) hg2 (by simp))
    have HO3 := Aside0.mk (Kd.R_grown (Kd.R_drew HO2.out) hg2 (fun _ _ => by simp))
    obtain ⟨A2, c2, rfl⟩ := Kd.R_slice ho2
    refine hK.out _ _ ⟨(blk_cell BK2.out 2).trans (by rw [HM.out]; rfl), (blk_cell BX2.out 0).trans rfl, (blk_cell BX2.out 1).trans rfl, (blk_cell BX2.out 2).trans rfl⟩ (fun hHeld => ?_)
    clear hK K
    refine norm_ (a' := ?_) ?_ ?_
    rotate_left
    · show Act.put _ (some 28) _ = _
      simp only [Act.put, List.setIfInBounds_toArray, List.set_cons_zero, List.set_cons_succ, i64_w, i32_w]
      rfl
    refine one_ (i := 8) (N := some 26) #[true, true, true, true, true, true, true, true, true, true, true, false, false, false, false] rfl rfl (by kernel_rfl) (by decide) (fun K hK => ?_)
    refine goes_ Try.func141 (by kernel_rfl) rfl #[.slice (some ⟨gx, 0, none⟩) (m + 1) c, .int .i64 k, .int .i64 (wrap64 (k + 1))] (by rfl) rfl rfl (by (try simp only [List.map_toArray, List.map_cons, List.map_nil]); first | done | rfl) ?_
    rw [HWR.out]
    refine (slices_Delete_Item.mine gx m c k base xs (fun _ => True) w0 _ HO3.out (by have := HM.out; have := HKL.out.1; omega) hb2 (Nat.le_trans HBW.out hg2.size)).mono ?_
    rintro e w1 ⟨rfl, ho, hb, hgr⟩
    refine ⟨_, rfl, ?_⟩
    have BK3 := Aside0.mk (blk_grown BK2.out hgr NGX.out)
    have BX3 := Aside0.mk (blk_grown BX2.out hgr NBX.out)
    have HL2 := Aside0.mk (Kd.R_grown ho2 hgr (fun _ hk => hk))
    refine hK.out _ _ ⟨(blk_cell BK3.out 2).trans (by rw [HM.out]; rfl), (blk_cell BX3.out 0).trans rfl, (blk_cell BX3.out 1).trans rfl, (blk_cell BX3.out 2).trans rfl⟩ (fun hHeld => ?_)
    clear hK K
    refine norm_ (a' := ?_) ?_ ?_
    rotate_left
    · show Act.put _ (some 26) _ = _
      simp only [Act.put, List.setIfInBounds_toArray, List.set_cons_zero, List.set_cons_succ, i64_w, i32_w]
      rfl
    refine one_ (i := 11) (N := some 29) #[true, true, true, true, true, true, true, true, true, true, true, true, false, false, false] rfl rfl (by kernel_rfl) (by decide) (fun K hK => ?_)
    refine Kd.R_append_rows_step k120 (Rr := k120.K w1) (w0 := w0) base rfl (.tmp 26) (.tmp 28) 32 120 (.agg #[(.string ⟨#[]⟩), (.string ⟨#[]⟩), (.int .i64 0)]) 40 rfl Try.underlying32 info120 rfl (by decide) (by omega) (.slice (some ⟨gx, 0, none⟩) m c) (xs.eraseIdx k) [rd_T120 xs k] _ _ _ (fun _ => True) (fun _ => False) rfl rfl ho (Kd.R_reads' HL2.out).2.2 (fun _ _ h => h) (fun _ h => h.elim) (fun _ _ => trivial) hb (by exact Nat.le_trans (Nat.le_trans HBW.out hg2.size) hgr.size) ?_ (fun v1 w3 ho3 hb3 hg3 hat3 => ?_)
    · have := HKL.out
      rw [List.length_eraseIdx]
      simp
      split <;> omega
    refine hK.out _ _ ⟨(blk_cell (blk_grown BK3.out hg3 NGX.out) 2).trans (by rw [HM.out]; rfl), (blk_cell (blk_grown BX3.out hg3 NBX.out) 0).trans rfl, (blk_cell (blk_grown BX3.out hg3 NBX.out) 1).trans rfl, (blk_cell (blk_grown BX3.out hg3 NBX.out) 2).trans rfl⟩ (fun hHeld => ?_)
    clear hK K
    obtain ⟨A3, c3, rfl⟩ := Kd.R_slice ho3
    refine norm_ (a' := ?_) ?_ ?_
    rotate_left
    · show Act.put _ (some 29) _ = _
      simp only [Act.put, List.setIfInBounds_toArray, List.set_cons_zero, List.set_cons_succ, i64_w, i32_w]
      rfl
    refine pure_ (i := 12) (N := some 30) (v := ?_) (a' := ?_) #[true, true, true, true, true, true, true, true, true, true, true, true, true, false, false] rfl rfl (by kernel_rfl) (fun _ _ _ h => h) (Or.inl ⟨by rfl, ?_⟩) ?_ ?_
    rotate_left
    · intro w'
      go_simp
      with_reducible rfl
    rotate_left
    · simp only [Act.put, List.setIfInBounds_toArray, List.set_cons_zero, List.set_cons_succ, i64_w, i32_w]
      rfl
    refine pure_ (i := 13) (N := some 31) (v := ?_) (a' := ?_) #[true, true, true, true, true, true, true, true, true, true, true, true, true, true, false] rfl rfl (by kernel_rfl) (fun _ _ _ h => h) (Or.inl ⟨by rfl, ?_⟩) ?_ ?_
    rotate_left
    · intro w'
      go_simp
      with_reducible rfl
    rotate_left
    · simp only [Act.put, List.setIfInBounds_toArray, List.set_cons_zero, List.set_cons_succ, i64_w, i32_w]
      rfl
    refine last_ (i := 14) (N := none) #[true, true, true, true, true, true, true, true, true, true, true, true, true, true, true] rfl rfl (by kernel_rfl) (by decide) (fun K hK => ?_)
    have BK4 := Aside0.mk (blk_grown BK3.out hg3 NGX.out)
    have s2 : w3.cell? ⟨g, 2, none⟩ = some (.slice (some ⟨gx, 0, none⟩) xs.length c) := (blk_cell BK4.out 2).trans rfl
    have f2 : w3.frozen? ⟨g, 2, none⟩ = false := blk_frozen BK4.out 2
    refine skip_ rfl rfl (w1 := w3.setCell ⟨g, 2, none⟩ (.slice A3 (xs.eraseIdx k ++ [rd_T120 xs k]).length c3)) (by go_simp) ?_
    refine hK.out _ _ ?_
    clear hK K
    refine done_ (by kernel_rfl) ?_
    have ho4 := Aside0.mk ho3
    have hb4 := Aside0.mk hb3
    have hk4 : Aside0 (KeepBut w w3 g (some gx)) := ⟨KeepBut.trans (KeepBut.trans (KeepBut.trans (KeepBut.of_below (show Below w.heap.size w W.drew from HBX2.out ▸ HW.out.drew) g (some gx)) (keep_none (KeepBut.of_grown hg2 g) (some gx)) (.inl rfl)) (KeepBut.of_grown hgr g) (.inl rfl)) (KeepBut.of_grown hg3 g) (.inl rfl)⟩
    clear s2 f2 ho3 hb3 hg3 hat3
    go_wp2
    go_end0
    have hae : askedRow 2 xs k = xs.eraseIdx k ++ [rd_T120 xs k] := by simp [askedRow]
    refine ⟨rfl, _, blk_put BK4.out 2 _ rfl, ?_, hb4.out.setCell (by exact hg) _, hk4.out.set_ 2 _⟩
    rw [hae]
    exact Kd.R_set ho4.out BK4.out (by decide) 2 _
set_option maxHeartbeats 8000000 in
set_option maxRecDepth 100000 in
theorem impl_Row_asked.clock (cap : Int) (g gx c : Nat) (xs : List S120) (k : Nat) (hk : k < xs.length) (base : Nat) (w0 w : World)
    (hB : w.heap[g]? = some (.cells #[.int .i64 3, .int .i64 cap, .slice (some ⟨gx, 0, none⟩) xs.length c] 34 (0, 0))) (hO : Kd.R k120 120 w base (fun _ => True) (.slice (some ⟨gx, 0, none⟩) xs.length c) xs) (HB : Below base w0 w) :
    Calls Try.prog 81 #[.pointer (some ⟨g, 0, none⟩), .int .i64 k] w fun e w' => e = .returned (.tuple #[]) ∧ ∃ V', w'.heap[g]? = some (.cells #[.int .i64 3, .int .i64 cap, V'] 34 (0, 0)) ∧ Kd.R k120 120 w' base (fun _ => True) V' (askedRow 3 xs k) ∧ Below base w0 w' ∧ KeepBut w w' g (some gx) := by
  obtain ⟨x0, x1, x2⟩ := own_elem hO k hk
  have hput := own_put2 hO k hk 1
  have c0 : w.cell? ⟨g, 0, none⟩ = some (.int .i64 3) := (blk_cell hB 0).trans rfl
  have c1 : w.cell? ⟨g, 1, none⟩ = some (.int .i64 cap) := (blk_cell hB 1).trans rfl
  have c2 : w.cell? ⟨g, 2, none⟩ = some (.slice (some ⟨gx, 0, none⟩) xs.length c) := (blk_cell hB 2).trans rfl
  have hne : g ≠ gx := fun h => Kd.R_ne hO hB (by decide) (by rw [h]; rfl)
  have hbx : base ≤ gx := Kd.R_base hO gx rfl
  have hfz : w.frozen? ⟨gx, k * 3 + 2, none⟩ = false := by
    obtain ⟨cur, hh, _⟩ := own_cells hO
    exact blk_frozen hh _
  have HP := Aside0.mk hput
  have HBK := Aside0.mk hB
  have HB0 := Aside0.mk HB
  clear hB hO HB hput
  go_enter Try.func81, Try.ntmps81
  go_wp2
  go_end0
  have hae : askedRow 3 xs k = xs.set k ⟨(rd_T120 xs k).f0, (rd_T120 xs k).f1, 1⟩ := by simp [askedRow]
  refine ⟨rfl, _, blk_far HBK.out hne _, ?_, HB0.out.setCell (by exact hbx) _, KeepBut.of_grown HP.out.2 g⟩
  rw [hae]
  exact HP.out.1
set_option maxHeartbeats 8000000 in
set_option maxRecDepth 100000 in
theorem impl_Row_asked.fifo (kind cap : Int) (V : Value) (g : Nat) (xs : List S120) (k : Nat) (base : Nat) (w0 w : World) (h2 : kind ≠ 2) (h3 : kind ≠ 3)
    (hB : w.heap[g]? = some (.cells #[.int .i64 kind, .int .i64 cap, V] 34 (0, 0))) (hO : Kd.R k120 120 w base (fun _ => True) V xs) (HB : Below base w0 w) :
    Calls Try.prog 81 #[.pointer (some ⟨g, 0, none⟩), .int .i64 k] w fun e w' => e = .returned (.tuple #[]) ∧ ∃ V', w'.heap[g]? = some (.cells #[.int .i64 kind, .int .i64 cap, V'] 34 (0, 0)) ∧ Kd.R k120 120 w' base (fun _ => True) V' (askedRow kind xs k) ∧ Below base w0 w' ∧ KeepBut w w' g V.ownBlock := by
  have c0 : w.cell? ⟨g, 0, none⟩ = some (.int .i64 kind) := (blk_cell hB 0).trans rfl
  have HBK := Aside0.mk hB
  have HB0 := Aside0.mk HB
  have HO := Aside0.mk hO
  have H2 := Aside0.mk (And.intro h2 h3)
  have e2 : (kind == 2) = false := beq_eq_false_iff_ne.mpr h2
  have e3 : (kind == 3) = false := beq_eq_false_iff_ne.mpr h3
  clear hB hO HB h2 h3
  go_enter Try.func81, Try.ntmps81
  go_wp2
  go_end0
  have hae : askedRow kind xs k = xs := by unfold askedRow; rw [if_neg H2.out.1, if_neg H2.out.2]
  exact ⟨rfl, V, HBK.out, by rw [hae]; exact HO.out, HB0.out, KeepBut.refl _ _ _⟩
/-- 'asked', whatever the kind. -/
theorem impl_Row_asked.mine (kind cap : Int) (g : Nat) (V : Value) (xs : List S120) (k : Nat) (hk : k < xs.length) (base : Nat) (w0 w : World)
    (hB : w.heap[g]? = some (.cells #[.int .i64 kind, .int .i64 cap, V] 34 (0, 0))) (hO : Kd.R k120 120 w base (fun _ => True) V xs) (HB : Below base w0 w) (hbase : base ≤ w.heap.size) (hg : base ≤ g) (hl : xs.length < 1000000) :
    Calls Try.prog 81 #[.pointer (some ⟨g, 0, none⟩), .int .i64 k] w fun e w' => e = .returned (.tuple #[]) ∧ ∃ V', w'.heap[g]? = some (.cells #[.int .i64 kind, .int .i64 cap, V'] 34 (0, 0)) ∧ Kd.R k120 120 w' base (fun _ => True) V' (askedRow kind xs k) ∧ Below base w0 w' ∧ KeepBut w w' g V.ownBlock := by
  by_cases h2 : kind = 2
  · subst h2
    obtain ⟨gx, c, rfl, _⟩ := own_form hO (by omega)
    exact impl_Row_asked.lru cap g gx c xs k hk base w0 w hB hO HB hbase hg hl
  · by_cases h3 : kind = 3
    · subst h3
      obtain ⟨gx, c, rfl, _⟩ := own_form hO (by omega)
      exact impl_Row_asked.clock cap g gx c xs k hk base w0 w hB hO HB
    · exact impl_Row_asked.fifo kind cap V g xs k base w0 w h2 h3 hB hO HB

end Go.Proofs.Ytkaahabgbngodaa.Core

namespace Go.Proofs.Ytkaahabgbngodaa.Core
open Go.RowKit Go.Proofs.YtkaahabgbngodaaW.PrintWords Go.Proofs.YtkaahabgbngodaaW.PrintLast Go.Proofs.YtkaahabgbngodaaW.PrintMore
attribute [local go_sem] max2_int min2_int max_two min_two max_three min_three max_four min_four   -- for this text's walks alone
set_option linter.unusedVariables false
set_option linter.unusedSimpArgs false

/-! ### impl_RowGet: function 22 -/
def impl_RowGet.f (k : Nat) (a0_0 a0_1 : Int) (l0_2 : List S120) (a1 : ByteArray) : Option (Int × Int × List S120 × ByteArray × Bool) :=
  if l0_2.length < 1000000 then
    (impl_RowOk.f k a0_0 a0_1 l0_2).bind fun ok =>
      if ok = true then (if ixOf l0_2 a1 < 0 then some (a0_0, a0_1, l0_2, (⟨#[]⟩ : ByteArray), false) else some (a0_0, a0_1, askedRow a0_0 l0_2 (ixOf l0_2 a1).toNat, (rd_T120 l0_2 (ixOf l0_2 a1)).f1, true))
      else some (0, 0, [], (⟨#[]⟩ : ByteArray), false)
  else none
theorem impl_RowGet.mono : ∀ a0 a1 a2 a3 k, LeO (impl_RowGet.f k a0 a1 a2 a3) (impl_RowGet.f (k + 1) a0 a1 a2 a3) := by
  intro a0 a1 a2 a3 k
  unfold impl_RowGet.f
  refine LeO.ite (LeO.bind (impl_RowOk.mono _ _ _ _) (fun _ => LeO.refl _)) (LeO.refl _)
theorem ixOf_pos (l : List S120) (key : ByteArray) (h : ¬ ixOf l key < 0) : ∃ i : Nat, ixOf l key = i ∧ i < l.length ∧ keyAt key (rd_T120 l i) = true := by
  unfold ixOf at h ⊢
  split at h
  · rename_i i hi
    rw [List.findIdx?_eq_some_iff_getElem] at hi
    obtain ⟨hl, hp, _⟩ := hi
    exact ⟨i, rfl, hl, by simpa [rd_T120, List.getD_eq_getElem?_getD, List.getElem?_eq_getElem hl] using hp⟩
  · omega
theorem cells3 {w : World} {g t : Nat} {a b c : Value} (h : w.heap[g]? = some (.cells #[a, b, c] t (0, 0))) : (w.cell? ⟨g, 0, none⟩ = some a ∧ w.cell? ⟨g, 1, none⟩ = some b ∧ w.cell? ⟨g, 2, none⟩ = some c) ∧ w.frozen? ⟨g, 0, none⟩ = false ∧ w.frozen? ⟨g, 1, none⟩ = false ∧ w.frozen? ⟨g, 2, none⟩ = false :=
  ⟨⟨(blk_cell h 0).trans rfl, (blk_cell h 1).trans rfl, (blk_cell h 2).trans rfl⟩, blk_frozen h 0, blk_frozen h 1, blk_frozen h 2⟩
/-- Three cells stored one after the other. -/
theorem put3 {w : World} {g t : Nat} {a b c : Value} (h : w.heap[g]? = some (.cells #[a, b, c] t (0, 0))) (x y z : Value) : (((w.setCell ⟨g, 0, none⟩ x).setCell ⟨g, 1, none⟩ y).setCell ⟨g, 2, none⟩ z).heap[g]? = some (.cells #[x, y, z] t (0, 0)) :=
  blk_put (blk_put (blk_put h 0 x rfl) 1 y rfl) 2 z rfl
theorem below_put3 {w W : World} {g : Nat} (h : Below w.heap.size w W) (hg : w.heap.size ≤ g) (x y z : Value) : Below w.heap.size w (((W.setCell ⟨g, 0, none⟩ x).setCell ⟨g, 1, none⟩ y).setCell ⟨g, 2, none⟩ z) := below_set (below_set (below_set h hg) hg) hg
theorem far_put3 {w : World} {g g' : Nat} {o : Obj} (h : w.heap[g']? = some o) (hne : g' ≠ g) (x y z : Value) : (((w.setCell ⟨g, 0, none⟩ x).setCell ⟨g, 1, none⟩ y).setCell ⟨g, 2, none⟩ z).heap[g']? = some o := by
  rw [Below.heap_setCell _ _ _ _ hne, Below.heap_setCell _ _ _ _ hne, Below.heap_setCell _ _ _ _ hne]; exact h
theorem far_cell3 {w : World} {g : Nat} {p : Addr} {v : Option Value} (h : w.cell? p = v) (hne : p.block ≠ g) (x y z : Value) : (((w.setCell ⟨g, 0, none⟩ x).setCell ⟨g, 1, none⟩ y).setCell ⟨g, 2, none⟩ z).cell? p = v := by
  rw [← h]
  refine World.cell?_of_block ?_
  rw [Below.heap_setCell _ _ _ _ hne, Below.heap_setCell _ _ _ _ hne, Below.heap_setCell _ _ _ _ hne]
theorem R_put3 {w : World} {base : Nat} {ok : Nat → Prop} {V : Value} {xs : List S120} {g : Nat} {cs : Array Value} {t : Nat} (h : Kd.R k120 120 w base ok V xs) (hb : w.heap[g]? = some (.cells cs t (0, 0))) (ht : 120 ≠ t) (x y z : Value) : Kd.R k120 120 (((w.setCell ⟨g, 0, none⟩ x).setCell ⟨g, 1, none⟩ y).setCell ⟨g, 2, none⟩ z) base ok V xs := by
  have hE : ∀ q, q ∈ 120 :: k120.E → q ≠ t := fun q hq => by
    have : q = 120 := by simpa [k120, Kd.iso, Kd.pair, Kd.string, Kd.int, Kd.scalar] using hq
    omega
  exact Kd.R_set (Kd.R_set (Kd.R_set h hb hE 0 x) (blk_set hb 0 x) hE 1 y) (blk_set (blk_set hb 0 x) 1 y) hE 2 z
set_option maxHeartbeats 8000000 in
set_option maxRecDepth 100000 in
theorem impl_RowGet.calls (k : Nat) (a0_0 a0_1 : Int) (A0_2 : Option Addr) (c0_2 : Nat) (l0_2 : List S120) (a1 : ByteArray) (r1 r2 : Int) (r3 : List S120) (r4 : ByteArray) (r5 : Bool) (w : World) (hr0_2 : Kd.C k120 w A0_2 l0_2.length l0_2) (hc0_2 : l0_2.length ≤ c0_2) (h : impl_RowGet.f k a0_0 a0_1 l0_2 a1 = some (r1, r2, r3, r4, r5)) :
    Calls Try.prog 22 #[.agg #[.int .i64 a0_0, .int .i64 a0_1, .slice A0_2 l0_2.length c0_2], .string a1] w fun e w' => ∃ v2_ : Value, e = .returned (.tuple #[.agg #[.int .i64 r1, .int .i64 r2, v2_], .string r4, .bool r5]) ∧ Kd.R k120 120 w' w.heap.size (fun _ => True) v2_ r3 ∧ Below w.heap.size w w' := by
  unfold impl_RowGet.f at h
  by_cases hl : l0_2.length < 1000000
  case neg => rw [if_neg hl] at h; exact absurd h (by simp)
  rw [if_pos hl] at h
  obtain ⟨ok, hok, h⟩ := Option.bind_eq_some_iff.mp h
  have HR := Aside0.mk hr0_2
  have HC := Aside0.mk hc0_2
  have HL := Aside0.mk hl
  have hcr : impl_copyRow.f a0_0 a0_1 l0_2 = some (a0_0, a0_1, l0_2) := by unfold impl_copyRow.f impl_copyItems.f; rw [if_pos (by omega)]; rfl
  have HCR := Aside0.mk hcr
  clear hr0_2 hc0_2 hl hcr
  cases ok with
  | false =>
    have OK := Aside0.mk hok
    clear hok
    replace h : some (0, 0, [], (⟨#[]⟩ : ByteArray), false) = some (r1, r2, r3, r4, r5) := h
    simp only [Option.some.injEq, Prod.mk.injEq] at h
    obtain ⟨rfl, rfl, rfl, rfl, rfl⟩ := h
    go_enter Try.func22, Try.ntmps22
    go_wp2_with (go_at_call 77; refine (impl_RowOk.calls k a0_0 a0_1 A0_2 c0_2 l0_2 false _ (Kd.C_alloc (Kd.C_alloc HR.out _) _) HC.out OK.out).mono ?_; rintro e w1 ⟨rfl, hb⟩; have B1 := Aside0.mk (blk_below (blk_alloc (blk_new w _) _) hb); have B4 := Aside0.mk (show w1.heap[w.heap.size + 1]? = some (.cells #[.int .i64 0, .int .i64 0, .slice none 0 0] 34 (0, 0)) by have z := blk_below (blk_new (w.alloc _) _) hb; simpa using z); have HB := Aside0.mk (below_step ((Below.refl w.heap.size w).alloc (Nat.le_refl _) _ |>.alloc (by simp) _) hb); clear hb; obtain ⟨⟨p0, p1, p2⟩, q0, q1, q2⟩ := cells3 B1.out; obtain ⟨⟨p3, p4, p5⟩, q3, q4, q5⟩ := cells3 B4.out)
    refine bodyPost_ret (results_ctt rfl _ _ (w.heap.size + 1) 34 #[.int .i64 0, .int .i64 0, .slice none 0 0] (0, 0) _ rfl (put3 B4.out _ _ _) Try.underlying34 rfl (by kernel_rfl)) rfl ?_
    exact ⟨_, rfl, Kd.R_nil _ _ _ _ _, below_put3 HB.out (by omega) _ _ _⟩
  | true =>
    have OK := Aside0.mk hok
    clear hok
    replace h : (if ixOf l0_2 a1 < 0 then some (a0_0, a0_1, l0_2, (⟨#[]⟩ : ByteArray), false) else some (a0_0, a0_1, askedRow a0_0 l0_2 (ixOf l0_2 a1).toNat, (rd_T120 l0_2 (ixOf l0_2 a1)).f1, true)) = some (r1, r2, r3, r4, r5) := h
    by_cases hx : ixOf l0_2 a1 < 0
    · rw [if_pos hx] at h
      simp only [Option.some.injEq, Prod.mk.injEq] at h
      obtain ⟨rfl, rfl, rfl, rfl, rfl⟩ := h
      have hd : decide (ixOf l0_2 a1 < 0) = true := decide_eq_true hx
      clear hx
      go_enter Try.func22, Try.ntmps22
      go_wp2_with (first | (go_at_call 77; refine (impl_RowOk.calls k a0_0 a0_1 A0_2 c0_2 l0_2 true _ (Kd.C_alloc (Kd.C_alloc HR.out _) _) HC.out OK.out).mono ?_; rintro e w1 ⟨rfl, hb⟩; have B1 := Aside0.mk (blk_below (blk_alloc (blk_new w _) _) hb); have B4 := Aside0.mk (show w1.heap[w.heap.size + 1]? = some (.cells #[.int .i64 0, .int .i64 0, .slice none 0 0] 34 (0, 0)) by have z := blk_below (blk_new (w.alloc _) _) hb; simpa using z); have HB := Aside0.mk (below_step ((Below.refl w.heap.size w).alloc (Nat.le_refl _) _ |>.alloc (by simp) _) hb); clear hb; obtain ⟨⟨p0, p1, p2⟩, q0, q1, q2⟩ := cells3 B1.out; obtain ⟨⟨p3, p4, p5⟩, q3, q4, q5⟩ := cells3 B4.out) | (go_at_call 79; refine (impl_copyRow.calls a0_0 a0_1 A0_2 c0_2 l0_2 a0_0 a0_1 l0_2 _ (Kd.C_below HR.out HB.out) HC.out HCR.out).mono ?_; rintro e w2 ⟨v, rfl, hov, hb⟩; obtain ⟨Av, cv, rfl⟩ := Kd.R_slice hov; have HOV := Aside0.mk (Kd.R_lower hov HB.out.size); have C1 := Aside0.mk (blk_below B1.out hb); have C4 := Aside0.mk (blk_below B4.out hb); have HB2 := Aside0.mk (below_step HB.out hb); have HS2 := Aside0.mk (show w.heap.size + 1 < w2.heap.size from blk_lt C4.out); clear hb hov p0 p1 p2 p3 p4 p5 q0 q1 q2 q3 q4 q5; obtain ⟨⟨p0, p1, p2⟩, q0, q1, q2⟩ := cells3 C1.out; obtain ⟨⟨p3, p4, p5⟩, q3, q4, q5⟩ := cells3 C4.out; have p2a : (w2.alloc (.cells #[.int .i64 a0_0, .int .i64 a0_1, .slice Av l0_2.length cv] 34)).cell? ⟨w.heap.size, 2, none⟩ = some (.slice A0_2 l0_2.length c0_2) := (blk_cell (blk_alloc C1.out _) 2).trans rfl) | (go_at_call 80; refine (impl_itemAt.calls A0_2 c0_2 l0_2 a1 (ixOf l0_2 a1) _ (Kd.C_alloc (Kd.C_below HR.out HB2.out) _) HC.out rfl).mono ?_; rintro e w3 ⟨rfl, hb⟩; have D1 := Aside0.mk (blk_below (blk_alloc C1.out _) hb); have D4 := Aside0.mk (blk_below (blk_alloc C4.out _) hb); have D7 := Aside0.mk (blk_below (blk_new w2 _) hb); have HB3 := Aside0.mk (below_step (HB2.out.alloc HB2.out.size _) hb); have HO3 := Aside0.mk (Kd.R_below (Kd.R_alloc HOV.out _) hb); clear hb p2a p0 p1 p2 p3 p4 p5 q0 q1 q2 q3 q4 q5; obtain ⟨⟨p0, p1, p2⟩, q0, q1, q2⟩ := cells3 D1.out; obtain ⟨⟨p3, p4, p5⟩, q3, q4, q5⟩ := cells3 D4.out; obtain ⟨⟨p6, p7, p8⟩, q6, q7, q8⟩ := cells3 D7.out))
      refine bodyPost_ret (results_ctt rfl _ _ (w.heap.size + 1) 34 #[.int .i64 a0_0, .int .i64 a0_1, .slice Av l0_2.length cv] (0, 0) _ rfl (put3 D4.out _ _ _) Try.underlying34 rfl (by kernel_rfl)) rfl ?_
      exact ⟨_, rfl, R_put3 HO3.out D4.out (by decide) _ _ _, below_put3 HB3.out (by omega) _ _ _⟩
    · rw [if_neg hx] at h
      simp only [Option.some.injEq, Prod.mk.injEq] at h
      obtain ⟨rfl, rfl, rfl, rfl, rfl⟩ := h
      have hd : decide (ixOf l0_2 a1 < 0) = false := decide_eq_false hx
      obtain ⟨i, hi, hil, _⟩ := ixOf_pos l0_2 a1 hx
      have HX := Aside0.mk hi
      have HI := Aside0.mk hil
      clear hx hi hil
      obtain ⟨x, hx⟩ : ∃ x, x = ixOf l0_2 a1 := ⟨_, rfl⟩
      have HXX := Aside0.mk hx
      rw [← hx] at hd HX ⊢
      clear hx
      have hxi : x = (i : Int) := HX.out
      subst hxi
      go_enter Try.func22, Try.ntmps22
      go_wp2_with (first | (go_at_call 77; refine (impl_RowOk.calls k a0_0 a0_1 A0_2 c0_2 l0_2 true _ (Kd.C_alloc (Kd.C_alloc HR.out _) _) HC.out OK.out).mono ?_; rintro e w1 ⟨rfl, hb⟩; have B1 := Aside0.mk (blk_below (blk_alloc (blk_new w _) _) hb); have B4 := Aside0.mk (show w1.heap[w.heap.size + 1]? = some (.cells #[.int .i64 0, .int .i64 0, .slice none 0 0] 34 (0, 0)) by have z := blk_below (blk_new (w.alloc _) _) hb; simpa using z); have HB := Aside0.mk (below_step ((Below.refl w.heap.size w).alloc (Nat.le_refl _) _ |>.alloc (by simp) _) hb); clear hb; obtain ⟨⟨p0, p1, p2⟩, q0, q1, q2⟩ := cells3 B1.out; obtain ⟨⟨p3, p4, p5⟩, q3, q4, q5⟩ := cells3 B4.out) | (go_at_call 79; refine (impl_copyRow.calls a0_0 a0_1 A0_2 c0_2 l0_2 a0_0 a0_1 l0_2 _ (Kd.C_below HR.out HB.out) HC.out HCR.out).mono ?_; rintro e w2 ⟨v, rfl, hov, hb⟩; obtain ⟨Av, cv, rfl⟩ := Kd.R_slice hov; have HOV := Aside0.mk (Kd.R_lower hov HB.out.size); have C1 := Aside0.mk (blk_below B1.out hb); have C4 := Aside0.mk (blk_below B4.out hb); have HB2 := Aside0.mk (below_step HB.out hb); have HS2 := Aside0.mk (show w.heap.size + 1 < w2.heap.size from blk_lt C4.out); clear hb hov p0 p1 p2 p3 p4 p5 q0 q1 q2 q3 q4 q5; obtain ⟨⟨p0, p1, p2⟩, q0, q1, q2⟩ := cells3 C1.out; obtain ⟨⟨p3, p4, p5⟩, q3, q4, q5⟩ := cells3 C4.out; have p2a : (w2.alloc (.cells #[.int .i64 a0_0, .int .i64 a0_1, .slice Av l0_2.length cv] 34)).cell? ⟨w.heap.size, 2, none⟩ = some (.slice A0_2 l0_2.length c0_2) := (blk_cell (blk_alloc C1.out _) 2).trans rfl) | (go_at_call 80; refine (impl_itemAt.calls A0_2 c0_2 l0_2 a1 (i : Int) _ (Kd.C_alloc (Kd.C_below HR.out HB2.out) _) HC.out (by unfold impl_itemAt.f; rw [HXX.out])).mono ?_; rintro e w3 ⟨rfl, hb⟩; have D1 := Aside0.mk (blk_below (blk_alloc C1.out _) hb); have D4 := Aside0.mk (blk_below (blk_alloc C4.out _) hb); have D7 := Aside0.mk (blk_below (blk_new w2 _) hb); have HB3 := Aside0.mk (below_step (HB2.out.alloc HB2.out.size _) hb); have HO3 := Aside0.mk (Kd.R_below (Kd.R_alloc HOV.out _) hb); clear hb p2a p0 p1 p2 p3 p4 p5 q0 q1 q2 q3 q4 q5; obtain ⟨⟨p0, p1, p2⟩, q0, q1, q2⟩ := cells3 D1.out; obtain ⟨⟨p3, p4, p5⟩, q3, q4, q5⟩ := cells3 D4.out; obtain ⟨⟨p6, p7, p8⟩, q6, q7, q8⟩ := cells3 D7.out) | (go_at_call 81; refine (impl_Row_asked.mine a0_0 a0_1 w2.heap.size (.slice Av l0_2.length cv) l0_2 i HI.out w.heap.size w w3 D7.out HO3.out HB3.out HB3.out.size (Nat.le_of_lt (Nat.lt_of_succ_lt HS2.out)) HL.out).mono ?_; rintro e w4 ⟨rfl, V', hbk, ho, hb, hkp⟩; obtain ⟨A4, c4, rfl⟩ := Kd.R_slice ho; have E7 := Aside0.mk hbk; have HO4 := Aside0.mk ho; have HB4 := Aside0.mk hb; have E1 := Aside0.mk (KeepBut.blk hkp D1.out (Nat.ne_of_lt (Nat.lt_of_succ_lt HS2.out)) (Kd.R_ne HO3.out D1.out (by decide))); have E4 := Aside0.mk (KeepBut.blk hkp D4.out (Nat.ne_of_lt HS2.out) (Kd.R_ne HO3.out D4.out (by decide))); clear hbk ho hb hkp p0 p1 p2 p3 p4 p5 p6 p7 p8 q0 q1 q2 q3 q4 q5 q6 q7 q8))
      obtain ⟨ad, e1, h0, h1, h2⟩ := at_T120 HR.out (i : Int) (by omega) (by have := HI.out; omega)
      cases e1
      simp only [Int.toNat_natCast] at h1
      have s4 := (HB4.out.cell (World.block_lt_of_cell? w _ h1)).trans h1
      have s3 : w4.cell? ⟨w.heap.size, 2, none⟩ = some (.slice (some ad) l0_2.length c0_2) := (blk_cell E1.out 2).trans rfl
      obtain ⟨⟨s0, s1, s2⟩, _⟩ := cells3 E7.out
      have q1 : ((i : Int) < (l0_2.length : Int)) = True := eq_true (by have := HI.out; omega)
      have q2 : (i < l0_2.length) = True := eq_true HI.out
      have HAD := Aside0.mk (show (ad.add (i * 3)).block < w.heap.size from World.block_lt_of_cell? w ⟨(ad.add (i * 3)).block, (ad.add (i * 3)).off + 1, none⟩ h1)
      clear h0 h1 h2
      refine start_ (n := 10) (S := fun w' => w'.cell? ⟨w2.heap.size, 0, none⟩ = some (.int .i64 a0_0) ∧ w'.cell? ⟨w2.heap.size, 1, none⟩ = some (.int .i64 a0_1) ∧ w'.cell? ⟨w2.heap.size, 2, none⟩ = some (.slice A4 (askedRow a0_0 l0_2 i).length c4) ∧ w'.cell? ⟨w.heap.size, 2, none⟩ = some (.slice (some ad) l0_2.length c0_2) ∧ w'.cell? ⟨(ad.add (i * 3)).block, (ad.add (i * 3)).off + 1, none⟩ = some (.string (rd_T120 l0_2 i).f1)) (ds := []) #[false, false, false, false, false, false, false, false, false, false] (by kernel_rfl) rfl rfl ⟨s0, s1, s2, s3, s4⟩ (fun hHeld => ?_)
      clear s0 s1 s2 s3 s4
      refine take_ (i := 0) (N := some 24) (v := ?_) (a' := ?_) #[true, false, false, false, false, false, false, false, false, false] rfl rfl (by kernel_rfl) (fun _ _ _ h => h) (Or.inl ⟨by rfl, ?_⟩) hHeld ?_ ?_
      rotate_left
      · rintro w' ⟨s0, s1, s2, s3, s4⟩
        go_simp
        with_reducible rfl
      rotate_left
      · simp only [Act.put, List.setIfInBounds_toArray, List.set_cons_zero, List.set_cons_succ, i64_w, i32_w]
        rfl
      refine pure_ (i := 1) (N := some 25) (v := ?_) (a' := ?_) #[true, true, false, false, false, false, false, false, false, false] rfl rfl (by kernel_rfl) (fun _ _ _ h => h) (Or.inl ⟨by rfl, ?_⟩) ?_ ?_
      rotate_left
      · intro w'
        go_simp
        with_reducible rfl
      rotate_left
      · simp only [Act.put, List.setIfInBounds_toArray, List.set_cons_zero, List.set_cons_succ, i64_w, i32_w]
        rfl
      refine take_ (i := 2) (N := some 26) (v := ?_) (a' := ?_) #[true, true, true, false, false, false, false, false, false, false] rfl rfl (by kernel_rfl) (fun _ _ _ h => h) (Or.inl ⟨by rfl, ?_⟩) hHeld ?_ ?_
      rotate_left
      · rintro w' ⟨s0, s1, s2, s3, s4⟩
        go_simp
        with_reducible rfl
      rotate_left
      · simp only [Act.put, List.setIfInBounds_toArray, List.set_cons_zero, List.set_cons_succ, i64_w, i32_w]
        rfl
      refine pure_ (i := 3) (N := some 27) (v := ?_) (a' := ?_) #[true, true, true, true, false, false, false, false, false, false] rfl rfl (by kernel_rfl) (fun _ _ _ h => h) (Or.inl ⟨by rfl, ?_⟩) ?_ ?_
      rotate_left
      · intro w'
        go_simp
        with_reducible rfl
      rotate_left
      · simp only [Act.put, List.setIfInBounds_toArray, List.set_cons_zero, List.set_cons_succ, i64_w, i32_w]
        rfl
      refine pure_ (i := 4) (N := some 28) (v := ?_) (a' := ?_) #[true, true, true, true, true, false, false, false, false, false] rfl rfl (by kernel_rfl) (fun _ _ _ h => h) (Or.inl ⟨by rfl, ?_⟩) ?_ ?_
      rotate_left
      · intro w'
        go_simp
        with_reducible rfl
      rotate_left
      · simp only [Act.put, List.setIfInBounds_toArray, List.set_cons_zero, List.set_cons_succ, i64_w, i32_w]
        rfl
      refine pure_ (i := 5) (N := some 29) (v := ?_) (a' := ?_) #[true, true, true, true, true, true, false, false, false, false] rfl rfl (by kernel_rfl) (fun _ _ _ h => h) (Or.inl ⟨by rfl, ?_⟩) ?_ ?_
      rotate_left
      · intro w'
        go_simp
        with_reducible rfl
      rotate_left
      · simp only [Act.put, List.setIfInBounds_toArray, List.set_cons_zero, List.set_cons_succ, i64_w, i32_w]
        rfl
      refine take_ (i := 6) (N := some 30) (v := ?_) (a' := ?_) #[true, true, true, true, true, true, true, false, false, false] rfl rfl (by kernel_rfl) (fun _ _ _ h => h) (Or.inl ⟨by rfl, ?_⟩) hHeld ?_ ?_
      rotate_left
      · rintro w' ⟨s0, s1, s2, s3, s4⟩
        go_simp
        with_reducible rfl
      rotate_left
      · simp only [Act.put, List.setIfInBounds_toArray, List.set_cons_zero, List.set_cons_succ, i64_w, i32_w]
        rfl
      refine one_ (i := 7) (N := none) #[true, true, true, true, true, true, true, true, false, false] rfl rfl (by kernel_rfl) (by decide) (fun K hK => ?_)
      obtain ⟨⟨p3, p4, p5⟩, q3, q4, q5⟩ := cells3 E4.out
      refine skip_ rfl rfl (w1 := ((w4.drew.setCell ⟨w.heap.size + 1, 0, none⟩ (.int .i64 a0_0)).setCell ⟨w.heap.size + 1, 1, none⟩ (.int .i64 a0_1)).setCell ⟨w.heap.size + 1, 2, none⟩ (.slice A4 (askedRow a0_0 l0_2 i).length c4)) (by go_simp) ?_
      refine hK.out _ _ ⟨far_cell3 hHeld.1 (Nat.ne_of_gt HS2.out) _ _ _, far_cell3 hHeld.2.1 (Nat.ne_of_gt HS2.out) _ _ _, far_cell3 hHeld.2.2.1 (Nat.ne_of_gt HS2.out) _ _ _, far_cell3 hHeld.2.2.2.1 (by simp) _ _ _, far_cell3 hHeld.2.2.2.2 (Nat.ne_of_lt (Nat.lt_succ_of_lt HAD.out)) _ _ _⟩ (fun hHeld => ?_)
      clear hK K
      refine pure_ (i := 8) (N := some 5) (v := ?_) (a' := ?_) #[true, true, true, true, true, true, true, true, true, false] rfl rfl (by kernel_rfl) (fun _ _ _ h => h) (Or.inl ⟨by rfl, ?_⟩) ?_ ?_
      rotate_left
      · intro w'
        go_simp
        with_reducible rfl
      rotate_left
      · simp only [Act.put, List.setIfInBounds_toArray, List.set_cons_zero, List.set_cons_succ, i64_w, i32_w]
        rfl
      refine pure_ (i := 9) (N := some 6) (v := ?_) (a' := ?_) #[true, true, true, true, true, true, true, true, true, true] rfl rfl (by kernel_rfl) (fun _ _ _ h => h) (Or.inl ⟨by rfl, ?_⟩) ?_ ?_
      rotate_left
      · intro w'
        go_simp
        with_reducible rfl
      rotate_left
      · simp only [Act.put, List.setIfInBounds_toArray, List.set_cons_zero, List.set_cons_succ, i64_w, i32_w]
        rfl
      refine done_ (by kernel_rfl) ?_
      clear p3 p4 p5 q3 q4 q5
      go_wp2
      refine bodyPost_ret (results_ctt rfl _ _ (w.heap.size + 1) 34 #[.int .i64 a0_0, .int .i64 a0_1, .slice A4 (askedRow a0_0 l0_2 i).length c4] (0, 0) _ rfl (put3 (blk_drew E4.out) _ _ _) Try.underlying34 rfl (by kernel_rfl)) rfl ?_
      exact ⟨_, rfl, R_put3 (Kd.R_drew HO4.out) (blk_drew E4.out) (by decide) _ _ _, below_put3 HB4.out.drew (by omega) _ _ _⟩

end Go.Proofs.Ytkaahabgbngodaa.Core

namespace Go.Proofs.Ytkaahabgbngodaa.Core
open Go.RowKit Go.Proofs.YtkaahabgbngodaaW.PrintWords Go.Proofs.YtkaahabgbngodaaW.PrintLast Go.Proofs.YtkaahabgbngodaaW.PrintMore
attribute [local go_sem] max2_int min2_int max_two min_two max_three min_three max_four min_four   -- for this text's walks alone
set_option linter.unusedVariables false
set_option linter.unusedSimpArgs false

/-! ### impl_RowPut: function 21 -/
/-- The first items with Freq 1 go to the end with Freq 0. -/
def spin : Nat → List S120 → Option (List S120)
  | 0, _ => none
  | _ + 1, [] => none
  | n + 1, x :: t => if x.f2 = 1 then spin n (t ++ [⟨x.f0, x.f1, 0⟩]) else some (x :: t)
def impl_RowPut.f (k : Nat) (a0_0 a0_1 : Int) (l0_2 : List S120) (a1 a2 : ByteArray) : Option (Int × Int × List S120 × List ByteArray × Bool) :=
  if l0_2.length < 1000000 then
    (impl_RowOk.f k a0_0 a0_1 l0_2).bind fun ok =>
      if ok = true then (impl_ItemOk.f k a1 a2 0).bind fun ok2 =>
        if ok2 = true then (if ixOf l0_2 a1 < 0 then
            (if (l0_2.length : Int) = a0_1 then (spin (l0_2.length + 1) l0_2).bind fun q => some (a0_0, a0_1, q.tail ++ [⟨a1, a2, 0⟩], [(rd_T120 q 0).f0], true)
             else some (a0_0, a0_1, l0_2 ++ [⟨a1, a2, 0⟩], [], true))
          else some (a0_0, a0_1, askedRow a0_0 (l0_2.set (ixOf l0_2 a1).toNat ⟨(rd_T120 l0_2 (ixOf l0_2 a1)).f0, a2, (rd_T120 l0_2 (ixOf l0_2 a1)).f2⟩) (ixOf l0_2 a1).toNat, [], true))
        else some (0, 0, [], [], false)
      else some (0, 0, [], [], false)
  else none
theorem impl_RowPut.mono : ∀ a0 a1 a2 a3 a4 k, LeO (impl_RowPut.f k a0 a1 a2 a3 a4) (impl_RowPut.f (k + 1) a0 a1 a2 a3 a4) := by
  intro a0 a1 a2 a3 a4 k
  unfold impl_RowPut.f
  refine LeO.ite (LeO.bind (impl_RowOk.mono _ _ _ _) (fun _ => LeO.ite (LeO.bind (impl_ItemOk.mono _ _ _ _) (fun _ => LeO.refl _)) (LeO.refl _))) (LeO.refl _)
set_option maxHeartbeats 8000000 in
set_option maxRecDepth 100000 in
theorem impl_RowPut.no (k : Nat) (a0_0 a0_1 : Int) (A0_2 : Option Addr) (c0_2 : Nat) (l0_2 : List S120) (a1 a2 : ByteArray) (w : World) (hr0_2 : Kd.C k120 w A0_2 l0_2.length l0_2) (hc0_2 : l0_2.length ≤ c0_2)
    (h : impl_RowOk.f k a0_0 a0_1 l0_2 = some false ∨ impl_RowOk.f k a0_0 a0_1 l0_2 = some true ∧ impl_ItemOk.f k a1 a2 0 = some false) :
    Calls Try.prog 21 #[.agg #[.int .i64 a0_0, .int .i64 a0_1, .slice A0_2 l0_2.length c0_2], .string a1, .string a2] w fun e w' => e = .returned (.tuple #[.agg #[.int .i64 0, .int .i64 0, .slice none 0 0], .slice none 0 0, .bool false]) ∧ Below w.heap.size w w' := by
  have HR := Aside0.mk hr0_2
  have HC := Aside0.mk hc0_2
  clear hr0_2 hc0_2
  rcases h with h | ⟨h, h2⟩
  · have OK := Aside0.mk h
    clear h
    go_enter Try.func21, Try.ntmps21
    go_wp2_with (go_at_call 77; refine (impl_RowOk.calls k a0_0 a0_1 A0_2 c0_2 l0_2 false _ (Kd.C_alloc (Kd.C_alloc HR.out _) _) HC.out OK.out).mono ?_; rintro e w1 ⟨rfl, hb⟩; have B1 := Aside0.mk (blk_below (blk_alloc (blk_new w _) _) hb); have B4 := Aside0.mk (show w1.heap[w.heap.size + 1]? = some (.cells #[.int .i64 0, .int .i64 0, .slice none 0 0] 34 (0, 0)) by have z := blk_below (blk_new (w.alloc _) _) hb; simpa using z); have HB := Aside0.mk (below_step ((Below.refl w.heap.size w).alloc (Nat.le_refl _) _ |>.alloc (by simp) _) hb); clear hb; obtain ⟨⟨p0, p1, p2⟩, q0, q1, q2⟩ := cells3 B1.out; obtain ⟨⟨p3, p4, p5⟩, q3, q4, q5⟩ := cells3 B4.out)
    refine bodyPost_ret (results_ctt rfl _ _ (w.heap.size + 1) 34 #[.int .i64 0, .int .i64 0, .slice none 0 0] (0, 0) _ rfl (put3 B4.out _ _ _) Try.underlying34 rfl (by kernel_rfl)) rfl ?_
    exact ⟨rfl, below_put3 HB.out (by omega) _ _ _⟩
  · have OK := Aside0.mk h
    have IOK := Aside0.mk h2
    clear h h2
    go_enter Try.func21, Try.ntmps21
    go_wp2_with (first | (go_at_call 77; refine (impl_RowOk.calls k a0_0 a0_1 A0_2 c0_2 l0_2 true _ (Kd.C_alloc (Kd.C_alloc HR.out _) _) HC.out OK.out).mono ?_; rintro e w1 ⟨rfl, hb⟩; have B1 := Aside0.mk (blk_below (blk_alloc (blk_new w _) _) hb); have B4 := Aside0.mk (show w1.heap[w.heap.size + 1]? = some (.cells #[.int .i64 0, .int .i64 0, .slice none 0 0] 34 (0, 0)) by have z := blk_below (blk_new (w.alloc _) _) hb; simpa using z); have HB := Aside0.mk (below_step ((Below.refl w.heap.size w).alloc (Nat.le_refl _) _ |>.alloc (by simp) _) hb); clear hb; obtain ⟨⟨p0, p1, p2⟩, q0, q1, q2⟩ := cells3 B1.out; obtain ⟨⟨p3, p4, p5⟩, q3, q4, q5⟩ := cells3 B4.out) | (go_at_call 78; refine (impl_ItemOk.calls k a1 a2 0 false _ IOK.out).mono ?_; rintro e w2 ⟨rfl, hb⟩; have C1 := Aside0.mk (blk_below B1.out hb); have C4 := Aside0.mk (blk_below B4.out hb); have HB2 := Aside0.mk (below_step HB.out hb); clear hb p0 p1 p2 p3 p4 p5 q0 q1 q2 q3 q4 q5; obtain ⟨⟨p0, p1, p2⟩, q0, q1, q2⟩ := cells3 C1.out; obtain ⟨⟨p3, p4, p5⟩, q3, q4, q5⟩ := cells3 C4.out))
    refine bodyPost_ret (results_ctt rfl _ _ (w.heap.size + 1) 34 #[.int .i64 0, .int .i64 0, .slice none 0 0] (0, 0) _ rfl (put3 C4.out _ _ _) Try.underlying34 rfl (by kernel_rfl)) rfl ?_
    exact ⟨rfl, below_put3 HB2.out (by omega) _ _ _⟩
/-- A row lives on while a block of another type and a row of another type are written. -/
theorem R_keep2 {α β : Type} {d : Kd α} {d' : Kd β} {e e' g t base b' : Nat} {w w1 : World} {ok ok' : Nat → Prop} {v u : Value} {xs : List α} {ys : List β} {cs : Array Value} {row : Option Nat} (h : d.R e w base ok v xs) (hk : KeepBut w w1 g row)
    (hb : w.heap[g]? = some (.cells cs t (0, 0))) (ht : ∀ q, q ∈ e :: d.E → q ≠ t) (hv : d'.R e' w b' ok' u ys) (he : row = u.ownBlock) (ht' : ∀ q, q ∈ e :: d.E → q ≠ e') : d.R e w1 base ok v xs := by
  refine Kd.R_mono (Kd.R_move (Kd.R_bound h) (fun k hk' => ?_)) (fun _ hk' => hk'.1)
  obtain ⟨_, _, hlt, q, hq, cells, hc⟩ := hk'
  refine hk.2 k hlt (fun e1 => ?_) (fun e1 => ?_)
  · subst e1
    rw [hb] at hc
    injection hc with hc
    injection hc with _ hc
    exact ht q hq hc.symm
  · obtain ⟨inner, ho⟩ := Kd.R_own hv
    obtain ⟨cells', hc'⟩ := own_typed ho k (by rw [← he, ← e1])
    rw [hc] at hc'
    injection hc' with hc'
    injection hc' with _ hc'
    exact ht' q hq hc'
theorem R_grownT {α : Type} {d : Kd α} {e e' base : Nat} {w w1 : World} {ok : Nat → Prop} {v : Value} {xs : List α} {row : Option Nat} (h : d.R e w base ok v xs) (hg : w.grownBy w1 row) (hrow : ∀ k, row = some k → ∃ cells, w.heap[k]? = some (.cells cells e' (0, 0))) (ht : ∀ q, q ∈ e :: d.E → q ≠ e') : d.R e w1 base ok v xs := by
  refine Kd.R_mono (Kd.R_move (Kd.R_bound h) (fun k hk' => ?_)) (fun _ hk' => hk'.1)
  obtain ⟨_, _, hlt, q, hq, cells, hc⟩ := hk'
  refine hg.block k hlt (fun e1 => ?_)
  obtain ⟨cells', hc'⟩ := hrow k e1.symm
  rw [hc] at hc'
  injection hc' with hc'
  injection hc' with _ hc'
  exact ht q hq hc'
theorem R_put3g {α : Type} {d : Kd α} {e base : Nat} {w : World} {ok : Nat → Prop} {V : Value} {xs : List α} {g : Nat} {cs : Array Value} {t : Nat} (h : d.R e w base ok V xs) (hb : w.heap[g]? = some (.cells cs t (0, 0))) (ht : ∀ q, q ∈ e :: d.E → q ≠ t) (x y z : Value) : d.R e (((w.setCell ⟨g, 0, none⟩ x).setCell ⟨g, 1, none⟩ y).setCell ⟨g, 2, none⟩ z) base ok V xs :=
  Kd.R_set (Kd.R_set (Kd.R_set h hb ht 0 x) (blk_set hb 0 x) ht 1 y) (blk_set (blk_set hb 0 x) 1 y) ht 2 z
theorem addr_add_zero (a : Addr) : a.add 0 = a := by
  simp [Addr.add]
theorem Q_grownT {α : Type} {d : Kd α} {e e' base : Nat} {w w1 : World} {ok : Nat → Prop} {v : Value} {xs : List α} {row : Option Nat} (h : d.Q e w base ok v xs) (hg : w.grownBy w1 row) (hrow : ∀ k, row = some k → ∃ cells, w.heap[k]? = some (.cells cells e' (0, 0))) (ht : ∀ q, q ∈ e :: d.E → q ≠ e') : d.Q e w1 base ok v xs := by
  refine Kd.Q_mono (Kd.Q_move (Kd.Q_bound h) (fun k hk' => ?_)) (fun _ hk' => hk'.1)
  obtain ⟨_, _, hlt, q, hq, cells, hc⟩ := hk'
  refine hg.block k hlt (fun e1 => ?_)
  obtain ⟨cells', hc'⟩ := hrow k e1.symm
  rw [hc] at hc'
  injection hc' with hc'
  injection hc' with _ hc'
  exact ht q hq hc'
theorem rtyped {α : Type} {d : Kd α} {e base : Nat} {w : World} {ok : Nat → Prop} {v : Value} {xs : List α} (h : d.R e w base ok v xs) : ∀ k, v.ownBlock = some k → ∃ cells, w.heap[k]? = some (.cells cells e (0, 0)) := by
  obtain ⟨inner, ho⟩ := Kd.R_own h
  exact fun k hk => own_typed ho k hk
set_option maxHeartbeats 8000000 in
set_option maxRecDepth 100000 in
theorem impl_RowPut.hit (k : Nat) (a0_0 a0_1 : Int) (A0_2 : Option Addr) (c0_2 : Nat) (l0_2 : List S120) (a1 a2 : ByteArray) (w : World) (hr0_2 : Kd.C k120 w A0_2 l0_2.length l0_2) (hc0_2 : l0_2.length ≤ c0_2) (hl : l0_2.length < 1000000)
    (ho1 : impl_RowOk.f k a0_0 a0_1 l0_2 = some true) (ho2 : impl_ItemOk.f k a1 a2 0 = some true) (i : Nat) (hi : i < l0_2.length) (hx : ixOf l0_2 a1 = i) :
    Calls Try.prog 21 #[.agg #[.int .i64 a0_0, .int .i64 a0_1, .slice A0_2 l0_2.length c0_2], .string a1, .string a2] w fun e w' => ∃ v2_ v3_ : Value, e = .returned (.tuple #[.agg #[.int .i64 a0_0, .int .i64 a0_1, v2_], v3_, .bool true]) ∧
      Kd.R k120 120 w' w.heap.size (fun _ => True) v2_ (askedRow a0_0 (l0_2.set i ⟨(rd_T120 l0_2 i).f0, a2, (rd_T120 l0_2 i).f2⟩) i) ∧ Kd.R Kd.string 9 w' w.heap.size (fun _ => True) v3_ [] ∧ Below w.heap.size w w' := by
  have HR := Aside0.mk hr0_2
  have HC := Aside0.mk hc0_2
  have HL := Aside0.mk hl
  have HI := Aside0.mk hi
  have OK := Aside0.mk ho1
  have IOK := Aside0.mk ho2
  have HXX := Aside0.mk hx
  have HCR := Aside0.mk (show impl_copyRow.f a0_0 a0_1 l0_2 = some (a0_0, a0_1, l0_2) by unfold impl_copyRow.f impl_copyItems.f; rw [if_pos (by omega)]; rfl)
  have t1 : ((i : Int) < (l0_2.length : Int)) = True := eq_true (by omega)
  have t2 : (i < l0_2.length) = True := eq_true hi
  obtain ⟨xs1, hxs1⟩ : ∃ q, q = l0_2.set i ⟨(rd_T120 l0_2 i).f0, a2, (rd_T120 l0_2 i).f2⟩ := ⟨_, rfl⟩
  have HX1 := Aside0.mk hxs1
  rw [← hxs1]
  clear hr0_2 hc0_2 hl hi ho1 ho2 hx hxs1
  go_enter Try.func21, Try.ntmps21
  go_wp2_with (first | (go_at_call 77; refine (impl_RowOk.calls k a0_0 a0_1 A0_2 c0_2 l0_2 true _ (Kd.C_alloc (Kd.C_alloc HR.out _) _) HC.out OK.out).mono ?_; rintro e w1 ⟨rfl, hb⟩; have B1 := Aside0.mk (blk_below (blk_alloc (blk_new w _) _) hb); have B4 := Aside0.mk (show w1.heap[w.heap.size + 1]? = some (.cells #[.int .i64 0, .int .i64 0, .slice none 0 0] 34 (0, 0)) by have z := blk_below (blk_new (w.alloc _) _) hb; simpa using z); have HB := Aside0.mk (below_step ((Below.refl w.heap.size w).alloc (Nat.le_refl _) _ |>.alloc (by simp) _) hb); clear hb; obtain ⟨⟨p0, p1, p2⟩, q0, q1, q2⟩ := cells3 B1.out; obtain ⟨⟨p3, p4, p5⟩, q3, q4, q5⟩ := cells3 B4.out) | (go_at_call 78; refine (impl_ItemOk.calls k a1 a2 0 true _ IOK.out).mono ?_; rintro e w2 ⟨rfl, hb⟩; have C1 := Aside0.mk (blk_below B1.out hb); have C4 := Aside0.mk (blk_below B4.out hb); have HB2 := Aside0.mk (below_step HB.out hb); clear hb p0 p1 p2 p3 p4 p5 q0 q1 q2 q3 q4 q5; obtain ⟨⟨p0, p1, p2⟩, q0, q1, q2⟩ := cells3 C1.out; obtain ⟨⟨p3, p4, p5⟩, q3, q4, q5⟩ := cells3 C4.out) | (go_at_call 79; refine (impl_copyRow.calls a0_0 a0_1 A0_2 c0_2 l0_2 a0_0 a0_1 l0_2 _ (Kd.C_below HR.out HB2.out) HC.out HCR.out).mono ?_; rintro e w3 ⟨v, rfl, hov, hb⟩; obtain ⟨Av, cv, rfl⟩ := Kd.R_slice hov; have HOV := Aside0.mk (Kd.R_lower hov HB2.out.size); have D1 := Aside0.mk (blk_below C1.out hb); have D4 := Aside0.mk (blk_below C4.out hb); have HB3 := Aside0.mk (below_step HB2.out hb); have HS3 := Aside0.mk (show w.heap.size + 1 < w3.heap.size from blk_lt D4.out); clear hb hov p0 p1 p2 p3 p4 p5 q0 q1 q2 q3 q4 q5; obtain ⟨⟨p0, p1, p2⟩, q0, q1, q2⟩ := cells3 D1.out; obtain ⟨⟨p3, p4, p5⟩, q3, q4, q5⟩ := cells3 D4.out) | ((with_reducible refine gate_dst (N := 26) rfl ?_); refine Kd.R_lit Kd.string _ 9 ?hg (N := 26) ?hd (xs := ([] : List ByteArray)) (inner := []) (ok := fun _ => True) (okp := fun _ => True) ?hr ?hp (fun _ hk => hk) trivial (Below.refl _ _) (Nat.le_refl _) (by simp) ?_; (case hd => rfl); (case hg => rfl); (case hr => first | (go_simp; done) | (go_simp; rfl)); (case hp => exact (Reps.none _ _)); intro vg w4 hog hb hgx hnew; clear hgx hnew; have E1 := Aside0.mk (blk_below (blk_alloc D1.out _) hb); have E4 := Aside0.mk (blk_below (blk_alloc D4.out _) hb); have E7 := Aside0.mk (blk_below (blk_new w3 _) hb); have HB4 := Aside0.mk (below_step (HB3.out.alloc HB3.out.size _) hb); have HO4 := Aside0.mk (Kd.R_below (Kd.R_alloc HOV.out _) hb); have HG4 := Aside0.mk (Kd.R_lower hog (show w.heap.size ≤ (w3.alloc _).heap.size by have := HB3.out.size; simp; omega)); obtain ⟨Ag, cg, rfl⟩ := Kd.R_slice hog; clear hb hog p0 p1 p2 p3 p4 p5 q0 q1 q2 q3 q4 q5; obtain ⟨⟨p0, p1, p2⟩, q0, q1, q2⟩ := cells3 E1.out; obtain ⟨⟨p3, p4, p5⟩, q3, q4, q5⟩ := cells3 E4.out; obtain ⟨⟨p6, p7, p8⟩, q6, q7, q8⟩ := cells3 E7.out) | (go_at_call 80; refine (impl_itemAt.calls A0_2 c0_2 l0_2 a1 (i : Int) _ (Kd.C_below HR.out HB4.out) HC.out (by unfold impl_itemAt.f; rw [HXX.out])).mono ?_; rintro e w5 ⟨rfl, hb⟩; have F1 := Aside0.mk (blk_below E1.out hb); have F4 := Aside0.mk (blk_below E4.out hb); have F7 := Aside0.mk (blk_below E7.out hb); have HB5 := Aside0.mk (below_step HB4.out hb); have HO5 := Aside0.mk (Kd.R_below HO4.out hb); have HG5 := Aside0.mk (Kd.R_below HG4.out hb); clear hb p0 p1 p2 p3 p4 p5 p6 p7 p8 q0 q1 q2 q3 q4 q5 q6 q7 q8; obtain ⟨⟨p0, p1, p2⟩, q0, q1, q2⟩ := cells3 F1.out; obtain ⟨⟨p3, p4, p5⟩, q3, q4, q5⟩ := cells3 F4.out; obtain ⟨⟨p6, p7, p8⟩, q6, q7, q8⟩ := cells3 F7.out; have hf := own_form HO5.out (by have := HI.out; omega); obtain ⟨gv, cv2, he, hle, hgb, hgl⟩ := hf; injection he with he1 he2 he3; subst he1; have HGL := Aside0.mk hgl; have HGB := Aside0.mk hgb; have hfz : w5.frozen? ⟨gv, i * 3 + 1, none⟩ = false := (own_cells HO5.out).elim (fun cur hh => blk_frozen hh.1 _); obtain ⟨x0, x1, x2⟩ := own_elem HO5.out i HI.out; have HP := Aside0.mk (own_put1 HO5.out i HI.out a2); clear he2 he3 hle hgb hgl; have NE7 : Aside0 (w3.heap.size ≠ gv) := ⟨fun h => Kd.R_ne HO5.out F7.out (by decide) (by rw [h]; rfl)⟩; have NE4 : Aside0 (w.heap.size + 1 ≠ gv) := ⟨fun h => Kd.R_ne HO5.out F4.out (by decide) (by rw [h]; rfl)⟩) | (go_at_call 81; refine (impl_Row_asked.mine a0_0 a0_1 w3.heap.size (.slice (some ⟨gv, 0, none⟩) l0_2.length cv) xs1 i (by rw [HX1.out, List.length_set]; exact HI.out) w.heap.size w (w5.setCell ⟨gv, i * 3 + 1, none⟩ (.string a2)) (blk_far F7.out NE7.out _) (by rw [HX1.out]; exact HP.out.1) (HB5.out.setCell (by exact HGB.out) _) (by have := HB5.out.size; simp [World.setCell]; omega) (Nat.le_of_lt (Nat.lt_of_succ_lt HS3.out)) (by rw [HX1.out, List.length_set]; exact HL.out)).mono ?_; rintro e w7 ⟨rfl, V', hbk, ho, hb, hkp⟩; obtain ⟨A7, c7, rfl⟩ := Kd.R_slice ho; have G7 := Aside0.mk hbk; have HO7 := Aside0.mk ho; have HB7 := Aside0.mk hb; have G4 := Aside0.mk (KeepBut.blk hkp (blk_far F4.out NE4.out _) (Nat.ne_of_lt HS3.out) (fun h => by injection h with h; exact NE4.out h)); have HG7 := Aside0.mk (R_keep2 (Kd.R_over HG5.out HO5.out (by decide) HP.out.2) hkp (blk_far F7.out NE7.out _) (by decide) HP.out.1 rfl (by decide)); clear hbk ho hb hkp p0 p1 p2 p3 p4 p5 p6 p7 p8 q0 q1 q2 q3 q4 q5 q6 q7 q8 x0 x1 x2 hfz; obtain ⟨⟨p3, p4, p5⟩, q3, q4, q5⟩ := cells3 G4.out; obtain ⟨⟨p6, p7, p8⟩, q6, q7, q8⟩ := cells3 G7.out))
  refine bodyPost_ret (results_ctt rfl _ _ (w.heap.size + 1) 34 #[.int .i64 a0_0, .int .i64 a0_1, .slice A7 (askedRow a0_0 xs1 i).length c7] (0, 0) _ rfl (put3 G4.out _ _ _) Try.underlying34 rfl (by kernel_rfl)) rfl ?_
  exact ⟨_, _, rfl, R_put3 HO7.out G4.out (by decide) _ _ _, R_put3g HG7.out G4.out (by decide) _ _ _, below_put3 HB7.out (by omega) _ _ _⟩
set_option maxHeartbeats 8000000 in
set_option maxRecDepth 100000 in
theorem impl_RowPut.more (k : Nat) (a0_0 a0_1 : Int) (A0_2 : Option Addr) (c0_2 : Nat) (l0_2 : List S120) (a1 a2 : ByteArray) (w : World) (hr0_2 : Kd.C k120 w A0_2 l0_2.length l0_2) (hc0_2 : l0_2.length ≤ c0_2) (hl : l0_2.length < 1000000)
    (ho1 : impl_RowOk.f k a0_0 a0_1 l0_2 = some true) (ho2 : impl_ItemOk.f k a1 a2 0 = some true) (hx : ixOf l0_2 a1 < 0) (hn : ¬ (l0_2.length : Int) = a0_1) :
    Calls Try.prog 21 #[.agg #[.int .i64 a0_0, .int .i64 a0_1, .slice A0_2 l0_2.length c0_2], .string a1, .string a2] w fun e w' => ∃ v2_ v3_ : Value, e = .returned (.tuple #[.agg #[.int .i64 a0_0, .int .i64 a0_1, v2_], v3_, .bool true]) ∧
      Kd.R k120 120 w' w.heap.size (fun _ => True) v2_ (l0_2 ++ [⟨a1, a2, 0⟩]) ∧ Kd.R Kd.string 9 w' w.heap.size (fun _ => True) v3_ [] ∧ Below w.heap.size w w' := by
  have HR := Aside0.mk hr0_2
  have HC := Aside0.mk hc0_2
  have HL := Aside0.mk hl
  have OK := Aside0.mk ho1
  have IOK := Aside0.mk ho2
  have HCR := Aside0.mk (show impl_copyRow.f a0_0 a0_1 l0_2 = some (a0_0, a0_1, l0_2) by unfold impl_copyRow.f impl_copyItems.f; rw [if_pos (by omega)]; rfl)
  obtain ⟨qs2, hq2⟩ : ∃ q, q = l0_2 ++ [⟨a1, a2, 0⟩] := ⟨_, rfl⟩
  have HQE := Aside0.mk hq2
  rw [← hq2]
  have HCR2 := Aside0.mk (show impl_copyRow.f a0_0 a0_1 qs2 = some (a0_0, a0_1, qs2) by rw [hq2]; unfold impl_copyRow.f impl_copyItems.f; rw [if_pos (by simp; omega)]; rfl)
  have t1 : ((l0_2.length : Int) == a0_1) = false := beq_eq_false_iff_ne.mpr hn
  have t2 : decide (0 ≤ ixOf l0_2 a1) = false := decide_eq_false (by omega)
  obtain ⟨x, hxx⟩ : ∃ q, q = ixOf l0_2 a1 := ⟨_, rfl⟩
  rw [← hxx] at t2
  have HXX := Aside0.mk hxx
  clear hr0_2 hc0_2 hl ho1 ho2 hx hn hxx hq2
  go_enter Try.func21, Try.ntmps21
  go_wp2_with (first | (go_at_call 77; refine (impl_RowOk.calls k a0_0 a0_1 A0_2 c0_2 l0_2 true _ (Kd.C_alloc (Kd.C_alloc HR.out _) _) HC.out OK.out).mono ?_; rintro e w1 ⟨rfl, hb⟩; have B1 := Aside0.mk (blk_below (blk_alloc (blk_new w _) _) hb); have B4 := Aside0.mk (show w1.heap[w.heap.size + 1]? = some (.cells #[.int .i64 0, .int .i64 0, .slice none 0 0] 34 (0, 0)) by have z := blk_below (blk_new (w.alloc _) _) hb; simpa using z); have HB := Aside0.mk (below_step ((Below.refl w.heap.size w).alloc (Nat.le_refl _) _ |>.alloc (by simp) _) hb); clear hb; obtain ⟨⟨p0, p1, p2⟩, q0, q1, q2⟩ := cells3 B1.out; obtain ⟨⟨p3, p4, p5⟩, q3, q4, q5⟩ := cells3 B4.out) | (go_at_call 78; refine (impl_ItemOk.calls k a1 a2 0 true _ IOK.out).mono ?_; rintro e w2 ⟨rfl, hb⟩; have C1 := Aside0.mk (blk_below B1.out hb); have C4 := Aside0.mk (blk_below B4.out hb); have HB2 := Aside0.mk (below_step HB.out hb); clear hb p0 p1 p2 p3 p4 p5 q0 q1 q2 q3 q4 q5; obtain ⟨⟨p0, p1, p2⟩, q0, q1, q2⟩ := cells3 C1.out; obtain ⟨⟨p3, p4, p5⟩, q3, q4, q5⟩ := cells3 C4.out) | (go_at_call 79; have _t := hapd; refine (impl_copyRow.calls a0_0 a0_1 A10 c10 qs2 a0_0 a0_1 qs2 _ (Kd.Q_reads' (Kd.Q_set HQ10.out K7.out (by decide) 2 _)).2.2 HC10.out HCR2.out).mono ?_; rintro e w11 ⟨v, rfl, hov, hb⟩; obtain ⟨Av11, cv11, rfl⟩ := Kd.R_slice hov; have HO11 := Aside0.mk (Kd.R_lower hov (show w.heap.size ≤ (w10.setCell _ _).heap.size by have := HB10.out.size; simp [World.setCell]; omega)); have M4 := Aside0.mk (blk_below (blk_far K4.out (show w.heap.size + 1 ≠ w3.heap.size from Nat.ne_of_lt HS3.out) _) hb); have HB11 := Aside0.mk (below_step (HB10.out.setCell (Nat.le_of_lt (Nat.lt_of_succ_lt HS3.out)) _) hb); have HG11 := Aside0.mk (Kd.R_below (Kd.R_set HG10.out K7.out (by decide) 2 _) hb); clear hb hov p3 p4 p5 p6 p7 p8 q3 q4 q5 q6 q7 q8; obtain ⟨⟨p3, p4, p5⟩, q3, q4, q5⟩ := cells3 M4.out) | (go_at_call 79; refine (impl_copyRow.calls a0_0 a0_1 A0_2 c0_2 l0_2 a0_0 a0_1 l0_2 _ (Kd.C_below HR.out HB2.out) HC.out HCR.out).mono ?_; rintro e w3 ⟨v, rfl, hov, hb⟩; obtain ⟨Av, cv, rfl⟩ := Kd.R_slice hov; have HOV := Aside0.mk (Kd.R_lower hov HB2.out.size); have D1 := Aside0.mk (blk_below C1.out hb); have D4 := Aside0.mk (blk_below C4.out hb); have HB3 := Aside0.mk (below_step HB2.out hb); have HS3 := Aside0.mk (show w.heap.size + 1 < w3.heap.size from blk_lt D4.out); clear hb hov p0 p1 p2 p3 p4 p5 q0 q1 q2 q3 q4 q5; obtain ⟨⟨p0, p1, p2⟩, q0, q1, q2⟩ := cells3 D1.out; obtain ⟨⟨p3, p4, p5⟩, q3, q4, q5⟩ := cells3 D4.out) | ((with_reducible refine gate_dst (N := 26) rfl ?_); refine Kd.R_lit Kd.string _ 9 ?hg (N := 26) ?hd (xs := ([] : List ByteArray)) (inner := []) (ok := fun _ => True) (okp := fun _ => True) ?hr ?hp (fun _ hk => hk) trivial (Below.refl _ _) (Nat.le_refl _) (by simp) ?_; (case hd => rfl); (case hg => rfl); (case hr => first | (go_simp; done) | (go_simp; rfl)); (case hp => exact (Reps.none _ _)); intro vg w4 hog hb hgx hnew; clear hgx hnew; have E1 := Aside0.mk (blk_below (blk_alloc D1.out _) hb); have E4 := Aside0.mk (blk_below (blk_alloc D4.out _) hb); have E7 := Aside0.mk (blk_below (blk_new w3 _) hb); have HB4 := Aside0.mk (below_step (HB3.out.alloc HB3.out.size _) hb); have HO4 := Aside0.mk (Kd.R_below (Kd.R_alloc HOV.out _) hb); have HG4 := Aside0.mk (Kd.R_lower hog (show w.heap.size ≤ (w3.alloc _).heap.size by have := HB3.out.size; simp; omega)); obtain ⟨Ag, cg, rfl⟩ := Kd.R_slice hog; clear hb hog p0 p1 p2 p3 p4 p5 q0 q1 q2 q3 q4 q5; obtain ⟨⟨p0, p1, p2⟩, q0, q1, q2⟩ := cells3 E1.out; obtain ⟨⟨p3, p4, p5⟩, q3, q4, q5⟩ := cells3 E4.out; obtain ⟨⟨p6, p7, p8⟩, q6, q7, q8⟩ := cells3 E7.out) | (go_at_call 80; refine (impl_itemAt.calls A0_2 c0_2 l0_2 a1 x _ (Kd.C_below HR.out HB4.out) HC.out (by unfold impl_itemAt.f; rw [HXX.out])).mono ?_; rintro e w5 ⟨rfl, hb⟩; have F1 := Aside0.mk (blk_below E1.out hb); have F4 := Aside0.mk (blk_below E4.out hb); have F7 := Aside0.mk (blk_below E7.out hb); have HB5 := Aside0.mk (below_step HB4.out hb); have HO5 := Aside0.mk (Kd.R_below HO4.out hb); have HG5 := Aside0.mk (Kd.R_below HG4.out hb); clear hb p0 p1 p2 p3 p4 p5 p6 p7 p8 q0 q1 q2 q3 q4 q5 q6 q7 q8; obtain ⟨⟨p0, p1, p2⟩, q0, q1, q2⟩ := cells3 F1.out; obtain ⟨⟨p3, p4, p5⟩, q3, q4, q5⟩ := cells3 F4.out; obtain ⟨⟨p6, p7, p8⟩, q6, q7, q8⟩ := cells3 F7.out; skip) | ((with_reducible refine gate_builtin (b := .append) (xs := #[.tmp 80, .tmp 84]) rfl ?_); at_builtin; refine Kd.Q_append k120 (w0 := w) w.heap.size rfl (.tmp 80) (.tmp 84) 32 120 (.agg #[(.string ⟨#[]⟩), (.string ⟨#[]⟩), (.int .i64 0)]) 40 rfl Try.underlying32 info120 rfl (by decide) (by omega) (.slice Av l0_2.length cv) l0_2 ⟨a1, a2, 0⟩ [.string a1, .string a2, .int .i64 0] (fun _ => True) (fun _ => False) rfl rfl ?aP (fun _ hk => hk.elim) ?aF ?aO ?aB ?aS ?aL ?_; (case aP => exact k120_mkM _ _ _ ⟨a1, a2, 0⟩); (case aF => exact (fun _ _ => trivial)); (case aO => exact (Kd.Q_of_R HO5.out)); (case aB => exact HB5.out); (case aS => exact HB5.out.size); (case aL => have := HL.out; omega); intro v10 w10 ho hb hg hat; rw [← HQE.out] at ho; obtain ⟨A10, c10, rfl, hc10⟩ := Kd.Q_slice ho; have HQ10 := Aside0.mk ho; have HC10 := Aside0.mk hc10; have HB10 := Aside0.mk hb; have K7 := Aside0.mk (blk_grown F7.out hg (Kd.Q_ne (Kd.Q_of_R HO5.out) F7.out (by decide))); have K4 := Aside0.mk (blk_grown F4.out hg (Kd.Q_ne (Kd.Q_of_R HO5.out) F4.out (by decide))); have HG10 := Aside0.mk (R_grownT HG5.out hg (Kd.Q_typed (Kd.Q_of_R HO5.out)) (by decide)); have hapd : True := trivial; clear ho hb hg hat hc10 p0 p1 p2 p3 p4 p5 p6 p7 p8 q0 q1 q2 q3 q4 q5 q6 q7 q8; obtain ⟨⟨p3, p4, p5⟩, q3, q4, q5⟩ := cells3 K4.out; obtain ⟨⟨p6, p7, p8⟩, q6, q7, q8⟩ := cells3 K7.out; have hgne : (w3.heap.size = w.heap.size + 1) = False := eq_false (Nat.ne_of_gt HS3.out)))
  refine bodyPost_ret (results_ctt rfl _ _ (w.heap.size + 1) 34 #[.int .i64 a0_0, .int .i64 a0_1, .slice Av11 qs2.length cv11] (0, 0) _ rfl (put3 M4.out _ _ _) Try.underlying34 rfl (by kernel_rfl)) rfl ?_
  exact ⟨_, _, rfl, R_put3 HO11.out M4.out (by decide) _ _ _, R_put3g HG11.out M4.out (by decide) _ _ _, below_put3 HB11.out (by omega) _ _ _⟩
set_option maxHeartbeats 8000000 in
set_option maxRecDepth 100000 in
theorem impl_RowPut.full (k : Nat) (a0_0 a0_1 : Int) (A0_2 : Option Addr) (c0_2 : Nat) (l0_2 : List S120) (a1 a2 : ByteArray) (q : List S120) (w : World) (hr0_2 : Kd.C k120 w A0_2 l0_2.length l0_2) (hc0_2 : l0_2.length ≤ c0_2) (hl : l0_2.length < 1000000)
    (ho1 : impl_RowOk.f k a0_0 a0_1 l0_2 = some true) (ho2 : impl_ItemOk.f k a1 a2 0 = some true) (hx : ixOf l0_2 a1 < 0) (hn : (l0_2.length : Int) = a0_1) (hq : spin (l0_2.length + 1) l0_2 = some q) :
    Calls Try.prog 21 #[.agg #[.int .i64 a0_0, .int .i64 a0_1, .slice A0_2 l0_2.length c0_2], .string a1, .string a2] w fun e w' => ∃ v2_ v3_ : Value, e = .returned (.tuple #[.agg #[.int .i64 a0_0, .int .i64 a0_1, v2_], v3_, .bool true]) ∧
      Kd.R k120 120 w' w.heap.size (fun _ => True) v2_ (q.tail ++ [⟨a1, a2, 0⟩]) ∧ Kd.R Kd.string 9 w' w.heap.size (fun _ => True) v3_ [(rd_T120 q 0).f0] ∧ Below w.heap.size w w' := by
  have HR := Aside0.mk hr0_2
  have HC := Aside0.mk hc0_2
  have HL := Aside0.mk hl
  have OK := Aside0.mk ho1
  have IOK := Aside0.mk ho2
  have HSP := Aside0.mk hq
  have HCR := Aside0.mk (show impl_copyRow.f a0_0 a0_1 l0_2 = some (a0_0, a0_1, l0_2) by unfold impl_copyRow.f impl_copyItems.f; rw [if_pos (by omega)]; rfl)
  have t1 : ((l0_2.length : Int) == a0_1) = true := beq_iff_eq.mpr hn
  have t2 : decide (0 ≤ ixOf l0_2 a1) = false := decide_eq_false (by omega)
  obtain ⟨x, hxx⟩ : ∃ q, q = ixOf l0_2 a1 := ⟨_, rfl⟩
  rw [← hxx] at t2
  have HXX := Aside0.mk hxx
  clear hr0_2 hc0_2 hl ho1 ho2 hx hn hxx hq
  go_enter Try.func21, Try.ntmps21
  go_wp2_with (first | (go_at_call 77; refine (impl_RowOk.calls k a0_0 a0_1 A0_2 c0_2 l0_2 true _ (Kd.C_alloc (Kd.C_alloc HR.out _) _) HC.out OK.out).mono ?_; rintro e w1 ⟨rfl, hb⟩; have B1 := Aside0.mk (blk_below (blk_alloc (blk_new w _) _) hb); have B4 := Aside0.mk (show w1.heap[w.heap.size + 1]? = some (.cells #[.int .i64 0, .int .i64 0, .slice none 0 0] 34 (0, 0)) by have z := blk_below (blk_new (w.alloc _) _) hb; simpa using z); have HB := Aside0.mk (below_step ((Below.refl w.heap.size w).alloc (Nat.le_refl _) _ |>.alloc (by simp) _) hb); clear hb; obtain ⟨⟨p0, p1, p2⟩, q0, q1, q2⟩ := cells3 B1.out; obtain ⟨⟨p3, p4, p5⟩, q3, q4, q5⟩ := cells3 B4.out) | (go_at_call 78; refine (impl_ItemOk.calls k a1 a2 0 true _ IOK.out).mono ?_; rintro e w2 ⟨rfl, hb⟩; have C1 := Aside0.mk (blk_below B1.out hb); have C4 := Aside0.mk (blk_below B4.out hb); have HB2 := Aside0.mk (below_step HB.out hb); clear hb p0 p1 p2 p3 p4 p5 q0 q1 q2 q3 q4 q5; obtain ⟨⟨p0, p1, p2⟩, q0, q1, q2⟩ := cells3 C1.out; obtain ⟨⟨p3, p4, p5⟩, q3, q4, q5⟩ := cells3 C4.out) | (go_at_call 79; refine (impl_copyRow.calls a0_0 a0_1 A0_2 c0_2 l0_2 a0_0 a0_1 l0_2 _ (Kd.C_below HR.out HB2.out) HC.out HCR.out).mono ?_; rintro e w3 ⟨v, rfl, hov, hb⟩; obtain ⟨Av, cv, rfl⟩ := Kd.R_slice hov; have HOV := Aside0.mk (Kd.R_lower hov HB2.out.size); have D1 := Aside0.mk (blk_below C1.out hb); have D4 := Aside0.mk (blk_below C4.out hb); have HB3 := Aside0.mk (below_step HB2.out hb); have HS3 := Aside0.mk (show w.heap.size + 1 < w3.heap.size from blk_lt D4.out); clear hb hov p0 p1 p2 p3 p4 p5 q0 q1 q2 q3 q4 q5; obtain ⟨⟨p0, p1, p2⟩, q0, q1, q2⟩ := cells3 D1.out; obtain ⟨⟨p3, p4, p5⟩, q3, q4, q5⟩ := cells3 D4.out) | ((with_reducible refine gate_dst (N := 26) rfl ?_); refine Kd.R_lit Kd.string _ 9 ?hg (N := 26) ?hd (xs := ([] : List ByteArray)) (inner := []) (ok := fun _ => True) (okp := fun _ => True) ?hr ?hp (fun _ hk => hk) trivial (Below.refl _ _) (Nat.le_refl _) (by simp) ?_; (case hd => rfl); (case hg => rfl); (case hr => first | (go_simp; done) | (go_simp; rfl)); (case hp => exact (Reps.none _ _)); intro vg w4 hog hb hgx hnew; clear hgx hnew; have E1 := Aside0.mk (blk_below (blk_alloc D1.out _) hb); have E4 := Aside0.mk (blk_below (blk_alloc D4.out _) hb); have E7 := Aside0.mk (blk_below (blk_new w3 _) hb); have HB4 := Aside0.mk (below_step (HB3.out.alloc HB3.out.size _) hb); have HO4 := Aside0.mk (Kd.R_below (Kd.R_alloc HOV.out _) hb); have HG4 := Aside0.mk (Kd.R_lower hog (show w.heap.size ≤ (w3.alloc _).heap.size by have := HB3.out.size; simp; omega)); obtain ⟨Ag, cg, rfl⟩ := Kd.R_slice hog; clear hb hog p0 p1 p2 p3 p4 p5 q0 q1 q2 q3 q4 q5; obtain ⟨⟨p0, p1, p2⟩, q0, q1, q2⟩ := cells3 E1.out; obtain ⟨⟨p3, p4, p5⟩, q3, q4, q5⟩ := cells3 E4.out; obtain ⟨⟨p6, p7, p8⟩, q6, q7, q8⟩ := cells3 E7.out) | (go_at_call 80; refine (impl_itemAt.calls A0_2 c0_2 l0_2 a1 x _ (Kd.C_below HR.out HB4.out) HC.out (by unfold impl_itemAt.f; rw [HXX.out])).mono ?_; rintro e w5 ⟨rfl, hb⟩; have F1 := Aside0.mk (blk_below E1.out hb); have F4 := Aside0.mk (blk_below E4.out hb); have F7 := Aside0.mk (blk_below E7.out hb); have HB5 := Aside0.mk (below_step HB4.out hb); have HO5 := Aside0.mk (Kd.R_below HO4.out hb); have HG5 := Aside0.mk (Kd.R_below HG4.out hb); clear hb p0 p1 p2 p3 p4 p5 p6 p7 p8 q0 q1 q2 q3 q4 q5 q6 q7 q8; obtain ⟨⟨p0, p1, p2⟩, q0, q1, q2⟩ := cells3 F1.out; obtain ⟨⟨p3, p4, p5⟩, q3, q4, q5⟩ := cells3 F4.out; obtain ⟨⟨p6, p7, p8⟩, q6, q7, q8⟩ := cells3 F7.out; skip))
  go_loopg [] (l0_2.length + 1) (fun kq w' => ∃ (xs : List S120) (A : Option Addr) (c : Nat), Aside0 (xs.length = l0_2.length) ∧ Aside0 (spin kq xs = some q) ∧ Aside0 (Kd.Q k120 120 w' w.heap.size (fun _ => True) (.slice A xs.length c) xs) ∧ Aside0 (w'.heap[w3.heap.size]? = some (.cells #[.int .i64 a0_0, .int .i64 a0_1, .slice A xs.length c] 34 (0, 0))) ∧ Aside0 (w'.heap[w.heap.size + 1]? = some (.cells #[.int .i64 0, .int .i64 0, .slice none 0 0] 34 (0, 0))) ∧ Aside0 (Kd.R Kd.string 9 w' w.heap.size (fun _ => True) (.slice Ag 0 cg) []) ∧ Aside0 (Below w.heap.size w w'))
  case atStart => exact ⟨l0_2, Av, cv, ⟨rfl⟩, HSP, ⟨Kd.Q_of_R HO5.out⟩, F7, F4, HG5, HB5⟩
  case round =>
    obtain ⟨xs, A, c, HN, HSK, HQ, L7, L4, HGL, HBL⟩ := hrel
    clear p0 p1 p2 p3 p4 p5 p6 p7 p8 q0 q1 q2 q3 q4 q5 q6 q7 q8 HO5 F7 F4 HG5 HB5 F1 E1 E4 E7 D1 D4 C1 C4 B1 B4 HB HB2 HB3 HB4 HO4 HG4 HOV HSP
    cases gk with
    | zero => exact absurd HSK.out (by simp [spin])
    | succ k1 =>
      cases xs with
      | nil => exact absurd HSK.out (by simp [spin])
      | cons y ys =>
        have hs := HSK.out
        simp only [spin] at hs
        obtain ⟨hn1, hc1, hC⟩ := Kd.Q_reads' HQ.out
        obtain ⟨ad, e1, h0, h1, h2⟩ := at_T120 hC 0 (by omega) (by simp)
        cases e1
        have ey : rd_T120 (y :: ys) 0 = y := rfl
        rw [ey] at h0 h1 h2
        have ez : ad.add ((0 : Int).toNat * 3) = ad := addr_add_zero ad
        rw [ez] at h0 h1 h2
        clear ez
        obtain ⟨⟨p6, p7, p8⟩, q6, q7, q8⟩ := cells3 L7.out
        by_cases hy : y.f2 = 1
        · rw [if_pos hy] at hs
          have HSN := Aside0.mk hs
          clear hs HSK hn1 hC ey
          obtain ⟨zs, hzs⟩ : ∃ z, z = ys ++ [(⟨y.f0, y.f1, 0⟩ : S120)] := ⟨_, rfl⟩
          have HZ := Aside0.mk hzs
          clear hzs
          have by1 : (y.f2 == 1) = true := beq_iff_eq.mpr hy
          clear hy
          have HA := Aside0.mk (blk_new wr (.cells #[.string y.f0, .string y.f1, .int .i64 0] 120))
          have HQ1 := Aside0.mk (Kd.Q_alloc HQ.out (.cells #[.string y.f0, .string y.f1, .int .i64 0] 120))
          have M7 := Aside0.mk (blk_alloc L7.out (.cells #[.string y.f0, .string y.f1, .int .i64 0] 120))
          have M4 := Aside0.mk (blk_alloc L4.out (.cells #[.string y.f0, .string y.f1, .int .i64 0] 120))
          have HG1 := Aside0.mk (Kd.R_alloc HGL.out (.cells #[.string y.f0, .string y.f1, .int .i64 0] 120))
          have HB1 := Aside0.mk (HBL.out.alloc HBL.out.size (.cells #[.string y.f0, .string y.f1, .int .i64 0] 120))
          have HNA0 := Kd.Q_lt HQ.out
          have HNA1 : Aside0 (∀ k, (Value.slice (some ad) (y :: ys).length c).ownBlock = some k → k < wr.heap.size) := ⟨HNA0⟩
          clear HNA0
          have HW7 : Aside0 (w3.heap.size < wr.heap.size) := ⟨blk_lt L7.out⟩
          go_wp2
          clear h0 h1 h2 p6 p7 p8 q6 q7 q8 HQ L7 L4 HGL HBL
          generalize hbx : wr.heap.size = bx at *
          generalize wr.alloc (.cells #[.string y.f0, .string y.f1, .int .i64 0] 120) = W at *
          clear hbx
          obtain ⟨i0, hi0, _, hsz0, _⟩ := info_parts info120
          have hcut0 := cut_from (P := Try.prog) 32 120 .i64 Try.underlying32 hi0 3 hsz0 (some ad) (y :: ys).length c 1 (by omega) (by simp; omega)
          have hr1 := Kd.Q_drop (k := (1 : Int).toNat) HQ1.out (by simp)
          obtain ⟨A1, hA1⟩ : ∃ A1, A1 = (if c = (1 : Int).toNat then (some ad) else (some ad : Option Addr).map (·.add ((1 : Int).toNat * 3))) := ⟨_, rfl⟩
          obtain ⟨c1, hcc1⟩ : ∃ c1, c1 = c - (1 : Int).toNat := ⟨_, rfl⟩
          rw [← hA1, ← hcc1] at hcut0
          have hr2 : Kd.Q k120 120 W w.heap.size (fun _ => True) (.slice A1 ys.length c1) ys := by rw [hA1, hcc1]; exact hr1
          have hcut : ∀ W_ : World, (Instr.slice 32 (.slice (some ad) (ys.length + 1) c) (some (.int .i64 1)) none none).run Try.prog W_ = .ok (.slice A1 ys.length c1) W_ := hcut0
          have HQ2 := Aside0.mk hr2
          have HNA : Aside0 (some bx ≠ (Value.slice A1 ys.length c1).ownBlock) := ⟨fun h => by
            have hb1 : (Value.slice A1 ys.length c1).ownBlock = (Value.slice (some ad) (y :: ys).length c).ownBlock := by
              rw [hA1]
              split
              · rfl
              · simp [Value.ownBlock]; unfold Addr.add; split <;> rfl
            rw [hb1] at h
            exact absurd (HNA1.out bx h.symm) (by omega)⟩
          clear hr1 hr2 hcut0 hA1 hcc1 HQ1 hi0 hsz0
          have s0 : W.cell? ⟨w3.heap.size, 2, none⟩ = some (.slice (some ad) (ys.length + 1) c) := (blk_cell M7.out 2).trans rfl
          have s1 : W.cell? ⟨bx, 0, none⟩ = some (.string y.f0) := (blk_cell HA.out 0).trans rfl
          have s2 : W.cell? ⟨bx, 1, none⟩ = some (.string y.f1) := (blk_cell HA.out 1).trans rfl
          have s3 : W.cell? ⟨bx, 2, none⟩ = some (.int .i64 0) := (blk_cell HA.out 2).trans rfl
          refine start_ (n := 8) (S := fun w' => w'.cell? ⟨w3.heap.size, 2, none⟩ = some (.slice (some ad) (ys.length + 1) c) ∧ w'.cell? ⟨bx, 0, none⟩ = some (.string y.f0) ∧ w'.cell? ⟨bx, 1, none⟩ = some (.string y.f1) ∧ w'.cell? ⟨bx, 2, none⟩ = some (.int .i64 0)) (ds := [7]) #[false, false, false, false, false, false, false, false] (by kernel_rfl) rfl rfl ⟨s0, s1, s2, s3⟩ (fun hHeld => ?_)
          clear s0 s1 s2 s3
          refine pure_ (i := 0) (N := some 60) (v := ?_) (a' := ?_) #[true, false, false, false, false, false, false, false] rfl rfl (by kernel_rfl) (fun _ _ _ h => h) (Or.inl ⟨by rfl, ?_⟩) ?_ ?_
          rotate_left
          · intro w'
            go_simp
            with_reducible rfl
          rotate_left
          · simp only [Act.put, List.setIfInBounds_toArray, List.set_cons_zero, List.set_cons_succ, i64_w, i32_w]
            rfl
          refine take_ (i := 1) (N := some 61) (v := ?_) (a' := ?_) #[true, true, false, false, false, false, false, false] rfl rfl (by kernel_rfl) (fun _ _ _ h => h) (Or.inl ⟨by rfl, ?_⟩) hHeld ?_ ?_
          rotate_left
          · rintro w' ⟨s0, s1, s2, s3⟩
            go_simp
            with_reducible rfl
          rotate_left
          · simp only [Act.put, List.setIfInBounds_toArray, List.set_cons_zero, List.set_cons_succ, i64_w, i32_w]
            rfl
          refine pure_ (i := 2) (N := some 62) (v := ?_) (a' := ?_) #[true, true, true, false, false, false, false, false] rfl rfl (by kernel_rfl) (fun _ _ _ h => h) (Or.inl ⟨by rfl, ?_⟩) ?_ ?_
          rotate_left
          · intro w'
            go_simp
            with_reducible rfl
          rotate_left
          · simp only [Act.put, List.setIfInBounds_toArray, List.set_cons_zero, List.set_cons_succ, i64_w, i32_w]
            rfl
          refine take_ (i := 3) (N := some 63) (v := ?_) (a' := ?_) #[true, true, true, true, false, false, false, false] rfl rfl (by kernel_rfl) (fun _ _ _ h => h) (Or.inl ⟨by rfl, ?_⟩) hHeld ?_ ?_
          rotate_left
          · rintro w' ⟨s0, s1, s2, s3⟩
            go_simp
            with_reducible rfl
          rotate_left
          · simp only [Act.put, List.setIfInBounds_toArray, List.set_cons_zero, List.set_cons_succ, i64_w, i32_w]
            rfl
          refine one_ (i := 4) (N := some 64) #[true, true, true, true, true, false, false, false] rfl rfl (by kernel_rfl) (by decide) (fun K hK => ?_)
          refine event_step (v := .slice (some ⟨W.drew.heap.size, 0, none⟩) 1 1) (w1 := W.drew.alloc (.cells #[.string y.f0, .string y.f1, .int .i64 0] 120)) rfl (by first | (go_simp; done) | (go_simp; rfl)) ?_
          have N7 := Aside0.mk (blk_alloc (blk_drew M7.out) (.cells #[.string y.f0, .string y.f1, .int .i64 0] 120))
          have NA := Aside0.mk (blk_alloc (blk_drew HA.out) (.cells #[.string y.f0, .string y.f1, .int .i64 0] 120))
          refine hK.out _ _ ⟨(blk_cell N7.out 2).trans rfl, (blk_cell NA.out 0).trans rfl, (blk_cell NA.out 1).trans rfl, (blk_cell NA.out 2).trans rfl⟩ (fun hHeld => ?_)
          clear hK K
          refine norm_ (a' := ?_) ?_ ?_
          rotate_left
          · show Act.put _ (some 64) _ = _
            simp only [Act.put, List.setIfInBounds_toArray, List.set_cons_zero, List.set_cons_succ, i64_w, i32_w]
            rfl
          refine one_ (i := 5) (N := some 65) #[true, true, true, true, true, true, false, false] rfl rfl (by kernel_rfl) (by decide) (fun K hK => ?_)
          refine Kd.Q_append_step k120 (w0 := w) w.heap.size rfl (.tmp 62) (.tmp 64) 32 120 (.agg #[(.string ⟨#[]⟩), (.string ⟨#[]⟩), (.int .i64 0)]) 40 rfl Try.underlying32 info120 rfl (by decide) (by omega) (.slice A1 ys.length c1) ys ⟨y.f0, y.f1, 0⟩ [.string y.f0, .string y.f1, .int .i64 0] (fun _ => True) (fun _ => False) rfl rfl (k120_mkM _ _ _ ⟨y.f0, y.f1, 0⟩) (fun _ hk => hk.elim) (fun _ _ => trivial) (Kd.Q_drew HQ2.out) HB1.out.drew HB1.out.size (by have := HL.out; have := HN.out; simp at this; omega) (fun v6 w6 ho hb hg hat => ?_)
          rw [show ys ++ [⟨y.f0, y.f1, 0⟩] = ys ++ [(⟨y.f0, y.f1, 0⟩ : S120)] from rfl, ← HZ.out] at ho
          obtain ⟨A6, c6, rfl, hc6⟩ := Kd.Q_slice ho
          have NE7 := Kd.Q_ne (Kd.Q_drew HQ2.out) (blk_drew M7.out) (by decide)
          have NE4 := Kd.Q_ne (Kd.Q_drew HQ2.out) (blk_drew M4.out) (by decide)
          have P7 := Aside0.mk (blk_grown (blk_drew M7.out) hg NE7)
          have P4 := Aside0.mk (blk_grown (blk_drew M4.out) hg NE4)
          have PG := Aside0.mk (R_grownT (Kd.R_drew HG1.out) hg (Kd.Q_typed (Kd.Q_drew HQ2.out)) (by decide))
          have PQ := Aside0.mk ho
          have PB := Aside0.mk hb
          have PA := Aside0.mk (blk_grown (blk_drew HA.out) hg HNA.out)
          refine hK.out _ _ ⟨(blk_cell P7.out 2).trans rfl, (blk_cell PA.out 0).trans rfl, (blk_cell PA.out 1).trans rfl, (blk_cell PA.out 2).trans rfl⟩ (fun hHeld => ?_)
          clear hK K
          refine norm_ (a' := ?_) ?_ ?_
          rotate_left
          · show Act.put _ (some 65) _ = _
            simp only [Act.put, List.setIfInBounds_toArray, List.set_cons_zero, List.set_cons_succ, i64_w, i32_w]
            rfl
          refine pure_ (i := 6) (N := some 66) (v := ?_) (a' := ?_) #[true, true, true, true, true, true, true, false] rfl rfl (by kernel_rfl) (fun _ _ _ h => h) (Or.inl ⟨by rfl, ?_⟩) ?_ ?_
          rotate_left
          · intro w'
            go_simp
            with_reducible rfl
          rotate_left
          · simp only [Act.put, List.setIfInBounds_toArray, List.set_cons_zero, List.set_cons_succ, i64_w, i32_w]
            rfl
          refine last_ (i := 7) (N := none) #[true, true, true, true, true, true, true, true] rfl rfl (by kernel_rfl) (by decide) (fun K hK => ?_)
          have s2 : w6.cell? ⟨w3.heap.size, 2, none⟩ = some (.slice (some ad) (ys.length + 1) c) := (blk_cell P7.out 2).trans rfl
          have f2 : w6.frozen? ⟨w3.heap.size, 2, none⟩ = false := blk_frozen P7.out 2
          refine skip_ rfl rfl (w1 := w6.setCell ⟨w3.heap.size, 2, none⟩ (.slice A6 zs.length c6)) (by go_simp) ?_
          refine hK.out _ _ ?_
          clear hK K s2 f2 ho hb hg hat
          refine done_ (by kernel_rfl) ?_
          go_wp2
          go_roundg k1
          case measure => omega
          case rel => exact ⟨zs, A6, c6, ⟨by rw [HZ.out]; have := HN.out; simp at this ⊢; omega⟩, ⟨by rw [HZ.out]; exact HSN.out⟩, ⟨Kd.Q_set PQ.out P7.out (by decide) 2 _⟩, ⟨blk_put P7.out 2 _ rfl⟩, ⟨blk_far P4.out (show w.heap.size + 1 ≠ w3.heap.size from Nat.ne_of_lt HS3.out) _⟩, ⟨Kd.R_set PG.out P7.out (by decide) 2 _⟩, ⟨PB.out.setCell (Nat.le_of_lt (Nat.lt_of_succ_lt HS3.out)) _⟩⟩
        · rw [if_neg hy] at hs
          obtain rfl := Option.some.inj hs
          clear hs HSK hn1 hC ey
          have by1 : (y.f2 == 1) = false := beq_eq_false_iff_ne.mpr hy
          clear hy
          have HYL := Aside0.mk (show ys.length < 1000000 by have h1_ := HN.out; have h2_ := HL.out; rw [List.length_cons] at h1_; omega)
          obtain ⟨i0, hi0, _, hsz0, _⟩ := info_parts info120
          have hcut0 := cut_from (P := Try.prog) 32 120 .i64 Try.underlying32 hi0 3 hsz0 (some ad) (y :: ys).length c 1 (by omega) (by simp; omega)
          have hr1 := Kd.Q_drop (k := (1 : Int).toNat) HQ.out (by simp)
          obtain ⟨A1, hA1⟩ : ∃ A1, A1 = (if c = (1 : Int).toNat then (some ad) else (some ad : Option Addr).map (·.add ((1 : Int).toNat * 3))) := ⟨_, rfl⟩
          obtain ⟨c1, hcc1⟩ : ∃ c1, c1 = c - (1 : Int).toNat := ⟨_, rfl⟩
          rw [← hA1, ← hcc1] at hcut0
          have hr2 : Kd.Q k120 120 wr w.heap.size (fun _ => True) (.slice A1 ys.length c1) ys := by rw [hA1, hcc1]; exact hr1
          have hcut : ∀ W_ : World, (Instr.slice 32 (.slice (some ad) (ys.length + 1) c) (some (.int .i64 1)) none none).run Try.prog W_ = .ok (.slice A1 ys.length c1) W_ := hcut0
          have HQ2 := Aside0.mk hr2
          clear hr1 hr2 hcut0 hA1 hcc1 hi0 hsz0
          obtain ⟨gl, hgl⟩ : ∃ z, z = [y.f0] := ⟨_, rfl⟩
          have HGE := Aside0.mk hgl
          obtain ⟨qs2, hq2⟩ : ∃ q, q = ys ++ [(⟨a1, a2, 0⟩ : S120)] := ⟨_, rfl⟩
          have HQE := Aside0.mk hq2
          have HCR2 := Aside0.mk (show impl_copyRow.f a0_0 a0_1 qs2 = some (a0_0, a0_1, qs2) by rw [hq2]; unfold impl_copyRow.f impl_copyItems.f; rw [if_pos (by have := HYL.out; simp; omega)]; rfl)
          clear hgl hq2
          go_wp2_with (first | ((with_reducible refine gate_builtin (b := .append) (xs := #[.tmp 67, .tmp 73]) rfl ?_); at_builtin; refine Kd.R_append Kd.string (w0 := w) w.heap.size rfl (.tmp 67) (.tmp 73) 23 9 (.string ⟨#[]⟩) 16 rfl Try.underlying23 info9 rfl (by decide) (by omega) (.slice Ag 0 cg) [] y.f0 [.string y.f0] (fun _ => True) (fun _ => False) rfl rfl ?gP (fun _ hk => hk.elim) ?gF ?gO ?gB ?gS ?gL ?_; (case gP => exact rfl); (case gF => exact (fun _ _ => trivial)); (case gO => exact HGL.out); (case gB => exact HBL.out); (case gS => exact HBL.out.size); (case gL => simp); intro v8 w8 ho hb hg hat; rw [List.nil_append, ← HGE.out] at ho; obtain ⟨A8, c8, rfl⟩ := Kd.R_slice ho; have UG := Aside0.mk ho; have UB := Aside0.mk hb; have U7 := Aside0.mk (blk_grown L7.out hg (Kd.R_ne HGL.out L7.out (by decide))); have U4 := Aside0.mk (blk_grown L4.out hg (Kd.R_ne HGL.out L4.out (by decide))); have UQ := Aside0.mk (Q_grownT HQ2.out hg (rtyped HGL.out) (by decide)); clear ho hb hg hat p6 p7 p8 q6 q7 q8 h0 h1 h2; obtain ⟨⟨p6, p7, p8⟩, q6, q7, q8⟩ := cells3 U7.out) | (go_at_call 79; have _t := hapd; refine (impl_copyRow.calls a0_0 a0_1 A10 c10 qs2 a0_0 a0_1 qs2 _ (Kd.Q_reads' (Kd.Q_set HQ10.out K7.out (by decide) 2 _)).2.2 HC10.out HCR2.out).mono ?_; rintro e w11 ⟨v, rfl, hov, hb⟩; obtain ⟨Av11, cv11, rfl⟩ := Kd.R_slice hov; have HO11 := Aside0.mk (Kd.R_lower hov (show w.heap.size ≤ (w10.setCell _ _).heap.size by have := HB10.out.size; simp [World.setCell]; omega)); have M4 := Aside0.mk (blk_below (blk_far K4.out (show w.heap.size + 1 ≠ w3.heap.size from Nat.ne_of_lt HS3.out) _) hb); have HB11 := Aside0.mk (below_step (HB10.out.setCell (Nat.le_of_lt (Nat.lt_of_succ_lt HS3.out)) _) hb); have HG11 := Aside0.mk (Kd.R_below (Kd.R_set HG10.out K7.out (by decide) 2 _) hb); clear hb hov p3 p4 p5 p6 p7 p8 q3 q4 q5 q6 q7 q8; obtain ⟨⟨p3, p4, p5⟩, q3, q4, q5⟩ := cells3 M4.out) | ((with_reducible refine gate_builtin (b := .append) (xs := #[.tmp 80, .tmp 84]) rfl ?_); at_builtin; refine Kd.Q_append k120 (w0 := w) w.heap.size rfl (.tmp 80) (.tmp 84) 32 120 (.agg #[(.string ⟨#[]⟩), (.string ⟨#[]⟩), (.int .i64 0)]) 40 rfl Try.underlying32 info120 rfl (by decide) (by omega) (.slice A1 ys.length c1) ys ⟨a1, a2, 0⟩ [.string a1, .string a2, .int .i64 0] (fun _ => True) (fun _ => False) rfl (by rw [show (w8.setCell ⟨w3.heap.size, 2, none⟩ (.slice A1 ys.length c1)).heap.size = w8.heap.size by simp [World.setCell]]; rfl) ?aP (fun _ hk => hk.elim) ?aF ?aO ?aB ?aS ?aL ?_; (case aP => exact k120_mkM _ _ _ ⟨a1, a2, 0⟩); (case aF => exact (fun _ _ => trivial)); (case aO => exact (Kd.Q_set UQ.out U7.out (by decide) 2 (.slice A1 ys.length c1))); (case aB => exact (UB.out.setCell (p := ⟨w3.heap.size, 2, none⟩) (Nat.le_of_lt (Nat.lt_of_succ_lt HS3.out)) (.slice A1 ys.length c1))); (case aS => exact (UB.out.setCell (p := ⟨w3.heap.size, 2, none⟩) (Nat.le_of_lt (Nat.lt_of_succ_lt HS3.out)) (.slice A1 ys.length c1)).size); (case aL => have := HYL.out; omega); intro v10 w10 ho hb hg hat; rw [← HQE.out] at ho; obtain ⟨A10, c10, rfl, hc10⟩ := Kd.Q_slice ho; have HQ10 := Aside0.mk ho; have HC10 := Aside0.mk hc10; have HB10 := Aside0.mk hb; have K7 := Aside0.mk (blk_grown (blk_put U7.out 2 (.slice A1 ys.length c1) rfl) hg (Kd.Q_ne (Kd.Q_set UQ.out U7.out (by decide) 2 (.slice A1 ys.length c1)) (blk_put U7.out 2 (.slice A1 ys.length c1) rfl) (by decide))); have K4 := Aside0.mk (blk_grown (blk_far U4.out (p := ⟨w3.heap.size, 2, none⟩) (show w.heap.size + 1 ≠ w3.heap.size from Nat.ne_of_lt HS3.out) (.slice A1 ys.length c1)) hg (Kd.Q_ne (Kd.Q_set UQ.out U7.out (by decide) 2 (.slice A1 ys.length c1)) (blk_far U4.out (p := ⟨w3.heap.size, 2, none⟩) (show w.heap.size + 1 ≠ w3.heap.size from Nat.ne_of_lt HS3.out) (.slice A1 ys.length c1)) (by decide))); have HG10 := Aside0.mk (R_grownT (Kd.R_set UG.out U7.out (by decide) 2 (.slice A1 ys.length c1)) hg (Kd.Q_typed (Kd.Q_set UQ.out U7.out (by decide) 2 (.slice A1 ys.length c1))) (by decide)); have hapd : True := trivial; clear ho hb hg hat hc10 p6 p7 p8 q6 q7 q8; obtain ⟨⟨p3, p4, p5⟩, q3, q4, q5⟩ := cells3 K4.out; obtain ⟨⟨p6, p7, p8⟩, q6, q7, q8⟩ := cells3 K7.out; have hgne : (w3.heap.size = w.heap.size + 1) = False := eq_false (Nat.ne_of_gt HS3.out)))
          refine bodyPost_ret (results_ctt rfl _ _ (w.heap.size + 1) 34 #[.int .i64 a0_0, .int .i64 a0_1, .slice Av11 qs2.length cv11] (0, 0) _ rfl (put3 M4.out _ _ _) Try.underlying34 rfl (by kernel_rfl)) rfl ?_
          exact ⟨_, _, rfl, by rw [show (y :: ys).tail ++ [(⟨a1, a2, 0⟩ : S120)] = qs2 from HQE.out.symm]; exact R_put3 HO11.out M4.out (by decide) _ _ _, by rw [show [(rd_T120 (y :: ys) 0).f0] = gl from HGE.out.symm]; exact R_put3g HG11.out M4.out (by decide) _ _ _, below_put3 HB11.out (by omega) _ _ _⟩
theorem impl_RowPut.calls (k : Nat) (a0_0 a0_1 : Int) (A0_2 : Option Addr) (c0_2 : Nat) (l0_2 : List S120) (a1 a2 : ByteArray) (r1 r2 : Int) (r3 : List S120) (r4 : List ByteArray) (r5 : Bool) (w : World) (hr0_2 : Kd.C k120 w A0_2 l0_2.length l0_2) (hc0_2 : l0_2.length ≤ c0_2) (h : impl_RowPut.f k a0_0 a0_1 l0_2 a1 a2 = some (r1, r2, r3, r4, r5)) :
    Calls Try.prog 21 #[.agg #[.int .i64 a0_0, .int .i64 a0_1, .slice A0_2 l0_2.length c0_2], .string a1, .string a2] w fun e w' => ∃ v2_ v3_ : Value, e = .returned (.tuple #[.agg #[.int .i64 r1, .int .i64 r2, v2_], v3_, .bool r5]) ∧ Kd.R k120 120 w' w.heap.size (fun _ => True) v2_ r3 ∧ Kd.R Kd.string 9 w' w.heap.size (fun _ => True) v3_ r4 ∧ Below w.heap.size w w' := by
  unfold impl_RowPut.f at h
  by_cases hl : l0_2.length < 1000000
  case neg => rw [if_neg hl] at h; exact absurd h (by simp)
  rw [if_pos hl] at h
  obtain ⟨ok, hok, h⟩ := Option.bind_eq_some_iff.mp h
  cases ok with
  | false =>
    replace h : some (0, 0, [], [], false) = some (r1, r2, r3, r4, r5) := h
    simp only [Option.some.injEq, Prod.mk.injEq] at h
    obtain ⟨rfl, rfl, rfl, rfl, rfl⟩ := h
    exact (impl_RowPut.no k a0_0 a0_1 A0_2 c0_2 l0_2 a1 a2 w hr0_2 hc0_2 (.inl hok)).mono fun e w' ⟨he, hb⟩ => ⟨_, _, he, Kd.R_nil _ _ _ _ _, Kd.R_nil _ _ _ _ _, hb⟩
  | true =>
    rw [if_pos rfl] at h
    obtain ⟨ok2, hok2, h⟩ := Option.bind_eq_some_iff.mp h
    cases ok2 with
    | false =>
      replace h : some (0, 0, [], [], false) = some (r1, r2, r3, r4, r5) := h
      simp only [Option.some.injEq, Prod.mk.injEq] at h
      obtain ⟨rfl, rfl, rfl, rfl, rfl⟩ := h
      exact (impl_RowPut.no k a0_0 a0_1 A0_2 c0_2 l0_2 a1 a2 w hr0_2 hc0_2 (.inr ⟨hok, hok2⟩)).mono fun e w' ⟨he, hb⟩ => ⟨_, _, he, Kd.R_nil _ _ _ _ _, Kd.R_nil _ _ _ _ _, hb⟩
    | true =>
      rw [if_pos rfl] at h
      by_cases hx : ixOf l0_2 a1 < 0
      · rw [if_pos hx] at h
        by_cases hn : (l0_2.length : Int) = a0_1
        · rw [if_pos hn] at h
          obtain ⟨q, hq, h⟩ := Option.bind_eq_some_iff.mp h
          simp only [Option.some.injEq, Prod.mk.injEq] at h
          obtain ⟨rfl, rfl, rfl, rfl, rfl⟩ := h
          exact impl_RowPut.full k a0_0 a0_1 A0_2 c0_2 l0_2 a1 a2 q w hr0_2 hc0_2 hl hok hok2 hx hn hq
        · rw [if_neg hn] at h
          simp only [Option.some.injEq, Prod.mk.injEq] at h
          obtain ⟨rfl, rfl, rfl, rfl, rfl⟩ := h
          exact impl_RowPut.more k a0_0 a0_1 A0_2 c0_2 l0_2 a1 a2 w hr0_2 hc0_2 hl hok hok2 hx hn
      · rw [if_neg hx] at h
        obtain ⟨i, hi, hil, _⟩ := ixOf_pos l0_2 a1 hx
        rw [hi] at h
        simp only [Option.some.injEq, Prod.mk.injEq] at h
        obtain ⟨rfl, rfl, rfl, rfl, rfl⟩ := h
        exact impl_RowPut.hit k a0_0 a0_1 A0_2 c0_2 l0_2 a1 a2 w hr0_2 hc0_2 hl hok hok2 i hil hi

end Go.Proofs.Ytkaahabgbngodaa.Core

namespace Go.Proofs.Ytkaahabgbngodaa.Core
open Go.RowKit Go.Proofs.YtkaahabgbngodaaW.PrintWords Go.Proofs.YtkaahabgbngodaaW.PrintLast Go.Proofs.YtkaahabgbngodaaW.PrintMore
attribute [local go_sem] max2_int min2_int max_two min_two max_three min_three max_four min_four   -- for this text's walks alone
set_option linter.unusedVariables false
set_option linter.unusedSimpArgs false

/-! ### impl_RowKeys: function 23 -/
def impl_RowKeys.l0 : Nat → List ByteArray → List (S120) → Int → Int → Option (List ByteArray)
  | 0, _, _, _, _ => none
  | k + 1, x3, x12, x13, x14 => if x14 < x13 then (if 0 ≤ x14 then (if x14 < (x12.length : Int) then (if x3.length < 8796093022208 then (impl_RowKeys.l0 k (x3 ++ [(rd_T120 x12 x14).f0]) x12 x13 (wrap64 (x14 + 1))) else (none)) else (none)) else (none)) else (some x3)
def impl_RowKeys.f (k : Nat) (a0_0 : Int) (a0_1 : Int) (l0_2 : List (S120)) : Option (List ByteArray) := (some (([] : List ByteArray) : List ByteArray)).bind fun y242 => ((impl_RowOk.f k a0_0 a0_1 l0_2).bind fun t245 => (if t245 = true then (impl_RowKeys.l0 k y242 l0_2 (l0_2.length : Int) 0) else (some y242)))
theorem impl_RowKeys.mono_l : ∀ k, (∀ y0 y1 y2 y3, LeO (impl_RowKeys.l0 k y0 y1 y2 y3) (impl_RowKeys.l0 (k + 1) y0 y1 y2 y3))
  | 0 => fun _ _ _ _ r h => by simp [impl_RowKeys.l0] at h
  | k + 1 => by
    have ih0 := impl_RowKeys.mono_l k
    · intro y0 y1 y2 y3
      unfold impl_RowKeys.l0
      repeat' first
      | (with_reducible exact ih0 _ _ _ _)
      | (with_reducible exact impl_RowOk.mono _ _ _ _)
      | (with_reducible exact LeO.refl _)
      | (with_reducible exact LeO.none _)
      | (with_reducible refine LeO.ite ?_ ?_)
      | (with_reducible refine LeO.bind ?_ (fun _ => ?_))
      | exact ih0 _ _ _ _
      | exact impl_RowOk.mono _ _ _ _
      | exact LeO.none _
      | refine LeO.ite ?_ ?_
      | refine LeO.bind ?_ (fun _ => ?_)
theorem impl_RowKeys.mono : ∀ a0 a1 a2 k, LeO (impl_RowKeys.f k a0 a1 a2) (impl_RowKeys.f (k + 1) a0 a1 a2) := by
  intro a0 a1 a2 k
  have ih0 := impl_RowKeys.mono_l k
  unfold impl_RowKeys.f
  repeat' first
      | (with_reducible exact ih0 _ _ _ _)
      | (with_reducible exact impl_RowOk.mono _ _ _ _)
      | (with_reducible exact LeO.refl _)
      | (with_reducible exact LeO.none _)
      | (with_reducible refine LeO.ite ?_ ?_)
      | (with_reducible refine LeO.bind ?_ (fun _ => ?_))
      | exact ih0 _ _ _ _
      | exact impl_RowOk.mono _ _ _ _
      | exact LeO.none _
      | refine LeO.ite ?_ ?_
      | refine LeO.bind ?_ (fun _ => ?_)
set_option maxHeartbeats 8000000 in
set_option maxRecDepth 100000 in
theorem impl_RowKeys.calls (k : Nat) (a0_0 : Int) (a0_1 : Int) (A0_2 : Option Addr) (c0_2 : Nat) (l0_2 : List (S120)) (r : List ByteArray) (w : World) (hr0_2 : Kd.C k120 w A0_2 l0_2.length l0_2) (hc0_2 : l0_2.length ≤ c0_2) (h : impl_RowKeys.f k a0_0 a0_1 l0_2 = some r) :
    Calls Try.prog 23 #[.agg #[.int .i64 a0_0, .int .i64 a0_1, .slice A0_2 l0_2.length c0_2]] w fun e w' => ∃ v0_ : Value, e = .returned (v0_) ∧ Kd.R Kd.string 9 w' w.heap.size (fun _ => True) v0_ r ∧ Below w.heap.size w w' := by
  have hu34 := Try.underlying34
  have hu120 := Try.underlying120
  have HR0_2 := Aside0.mk hr0_2
  have HC0_2 := Aside0.mk hc0_2
  clear hr0_2 hc0_2
  have HB := Aside0.mk (Below.refl w.heap.size w)
  have H : ((some (([] : List ByteArray) : List ByteArray)).bind fun y242 => ((impl_RowOk.f k a0_0 a0_1 l0_2).bind fun t245 => (if t245 = true then (impl_RowKeys.l0 k y242 l0_2 (l0_2.length : Int) 0) else (some y242)))) = some r := h
  clear h
  obtain ⟨y242, hy242⟩ : ∃ y_ : List ByteArray, y_ = (([] : List ByteArray)) := ⟨_, rfl⟩
  replace H : ((impl_RowOk.f k a0_0 a0_1 l0_2).bind fun t245 => (if t245 = true then (impl_RowKeys.l0 k y242 l0_2 (l0_2.length : Int) 0) else (some y242))) = some r := by first | (rw [hy242]; with_reducible exact H) | (have H2_ := (Option.bind_some _ _).symm.trans H; rw [hy242]; with_reducible exact H2_) | (have H2_ := (Option.bind_some _ _).symm.trans H; with_reducible exact H2_) | with_reducible exact H | (rw [hy242]; exact H) | exact H
  have Ny242 := Aside0.mk hy242
  clear hy242
  replace H := Option.bind_eq_some_iff.mp H
  obtain ⟨t245, A20, H⟩ := H
  replace H : (if t245 = true then (impl_RowKeys.l0 k y242 l0_2 (l0_2.length : Int) 0) else (some y242)) = some r := H
  have A2 := Aside0.mk A20
  clear A20
  by_cases c3 : t245 = true
  · subst c3
    have H1 : (impl_RowKeys.l0 k y242 l0_2 (l0_2.length : Int) 0) = some r := by rw [if_pos rfl] at H; exact H
    clear H
    have H := H1
    clear H1
    have H' := Aside0.mk H
    clear H
    go_enter Try.func23, Try.ntmps23
    go_wp2_with (first | ((with_reducible refine gate_dst (N := 1) rfl ?_); refine box_event ?hg (N := 1) ?hd (cs := #[.int .i64 a0_0, .int .i64 a0_1, .slice A0_2 l0_2.length c0_2]) (t := 34) ?hr ?_; (case hd => rfl); (case hg => rfl); (case hr => first | (go_simp; done) | (go_simp; rfl)); intro gb241 hg w4 hbox hb; have n0_ := Aside0.mk (below_step (by repeat (first | (with_reducible first | exact HB.out | apply below_alloc | apply pw_below_drewN | apply below_drew1) | exact HB.out)) hb); have n1_ := Aside0.mk (hbox); have n2_ := Aside0.mk ((by rw [hg]; exact (below_size (by repeat (first | (with_reducible first | exact HB.out | apply below_alloc | apply pw_below_drewN | apply below_drew1) | exact HB.out))) : w.heap.size ≤ gb241)); have n3_ := Aside0.mk ((by rw [hg]; exact (below_size (by repeat (first | (with_reducible first | exact HB.out | apply below_alloc | apply pw_below_drewN | apply below_drew1) | exact HB.out))) : w.heap.size ≤ gb241)); clear HB; have HB := n0_; have BK241 := n1_; have GW241 := n2_; have GE241 := n3_; clear n0_ n1_ n2_ n3_; clear hb hbox hg) | ((with_reducible refine gate_dst (N := 6) rfl ?_); refine Kd.R_lit Kd.string _ 9 ?hg (N := 6) ?hd (xs := ([] : List ByteArray)) (inner := []) (ok := fun _ => True) (okp := fun _ => True) ?hr ?hp (fun _ hk => hk) trivial (Below.refl _ _) (Nat.le_refl _) (by simp) ?_; (case hd => rfl); (case hg => rfl); (case hr => first | (go_simp; done) | (go_simp; rfl)); (case hp => exact (Reps.none _ _)); intro v243 w5 ho6 hb hg_ hnew_; clear hg_ hnew_; (first | rw [← Ny242.out] at ho6 | (simp only [Int.reduceToNat] at ho6; rw [← Ny242.out] at ho6)); have n0_ := Aside0.mk (Kd.R_lower ho6 (below_size (by repeat (first | (with_reducible first | exact HB.out | apply below_alloc | apply pw_below_drewN | apply below_drew1 | refine below_set ?_ GE241.out) | exact HB.out)))); have n1_ := Aside0.mk (blk_below (g := gb241) (o := .cells #[.int .i64 a0_0, .int .i64 a0_1, .slice A0_2 l0_2.length c0_2] 34 (0, 0)) (by (with_reducible repeat (first | refine blk_drewN ?_ _ | refine blk_drew ?_ | refine blk_alloc ?_ _)); exact BK241.out) hb); have n2_ := Aside0.mk (below_step (by repeat (first | (with_reducible first | exact HB.out | apply below_alloc | apply pw_below_drewN | apply below_drew1 | refine below_set ?_ GE241.out) | exact HB.out)) hb); clear BK241; clear HB; have HO244 := n0_; have BK241 := n1_; have HB := n2_; clear n0_ n1_ n2_; clear hb ho6; have hcz7_0 : w5.cell? ⟨gb241, 0, none⟩ = some (.int .i64 a0_0) := (blk_cell BK241.out 0).trans rfl; have hcz7_1 : w5.cell? ⟨gb241, 1, none⟩ = some (.int .i64 a0_1) := (blk_cell BK241.out 1).trans rfl; have hcz7_2 : w5.cell? ⟨gb241, 2, none⟩ = some (.slice A0_2 l0_2.length c0_2) := (blk_cell BK241.out 2).trans rfl; have hfz7_0 := blk_frozen BK241.out 0; have hfz7_1 := blk_frozen BK241.out 1; have hfz7_2 := blk_frozen BK241.out 2) | ((with_reducible refine gate_callee (f := 77) rfl ?_); refine goesL_ (some 8) rfl rfl Try.func77 (by kernel_rfl) rfl #[.agg #[.int .i64 a0_0, .int .i64 a0_1, .slice A0_2 l0_2.length c0_2]] rfl (by (try simp only [List.map_toArray, List.map_cons, List.map_nil]); first | done | rfl | (simp only [List.length_drop, List.length_take]; rfl)) ?_; (with_reducible refine (impl_RowOk.calls k a0_0 a0_1 _ _ l0_2 true _ ?side1 ?side2 A2.out).mono ?_); (case side1 => repeat (first | exact (Kd.C_below HR0_2.out HB.out) | (with_reducible refine Kd.C_alloc ?_ _) | (with_reducible refine Kd.C_drewN ?_ _) | (with_reducible refine Kd.C_drew ?_))); (case side2 => exact HC0_2.out); rintro e w8 ⟨rfl, hb⟩; refine ⟨_, rfl, ?_⟩; have n0_ := Aside0.mk (Kd.R_below (by (with_reducible repeat (first | apply Kd.R_alloc | apply Kd.R_drewN | apply Kd.R_drew)); exact HO244.out) hb); have n1_ := Aside0.mk (blk_below (g := gb241) (o := .cells #[.int .i64 a0_0, .int .i64 a0_1, .slice A0_2 l0_2.length c0_2] 34 (0, 0)) (by (with_reducible repeat (first | refine blk_drewN ?_ _ | refine blk_drew ?_ | refine blk_alloc ?_ _)); exact BK241.out) hb); have n2_ := Aside0.mk (below_step (by repeat (first | (with_reducible first | exact HB.out | apply below_alloc | apply pw_below_drewN | apply below_drew1 | refine below_set ?_ GE241.out) | exact HB.out)) hb); clear HO244; clear BK241; clear HB; have HO244 := n0_; have BK241 := n1_; have HB := n2_; clear n0_ n1_ n2_; (try clear hb); (try clear hb2); (try clear hk); (try clear hi); have hcz9_0 : w8.cell? ⟨gb241, 0, none⟩ = some (.int .i64 a0_0) := (blk_cell BK241.out 0).trans rfl; have hcz9_1 : w8.cell? ⟨gb241, 1, none⟩ = some (.int .i64 a0_1) := (blk_cell BK241.out 1).trans rfl; have hcz9_2 : w8.cell? ⟨gb241, 2, none⟩ = some (.slice A0_2 l0_2.length c0_2) := (blk_cell BK241.out 2).trans rfl; have hfz9_0 := blk_frozen BK241.out 0; have hfz9_1 := blk_frozen BK241.out 1; have hfz9_2 := blk_frozen BK241.out 2))
    go_loopg [3, 14] k (fun kq v3 v14 w' => ∃ (x3_1 : List ByteArray) (x14_1 : Int), v14 = .int .i64 x14_1 ∧ Aside0 (impl_RowKeys.l0 kq x3_1 l0_2 (l0_2.length : Int) x14_1 = some r) ∧ Aside0 (kq ≤ k) ∧ Aside0 (Kd.R Kd.string 9 w' w.heap.size (fun _ => True) v3 x3_1) ∧ Aside0 (w'.heap[gb241]? = some (.cells #[.int .i64 a0_0, .int .i64 a0_1, (.slice A0_2 l0_2.length c0_2)] 34 (0, 0))) ∧ Aside0 (Below w.heap.size w w'))
    case atStart => exact ⟨(y242), (0), (by first | rfl | (simp; done) | (simp [*]; done)), H', ⟨Nat.le_refl _⟩, ⟨by (with_reducible repeat (first | apply Kd.R_alloc | apply Kd.R_drewN | apply Kd.R_drew)); exact HO244.out⟩, ⟨by (with_reducible repeat (first | refine blk_drewN ?_ _ | refine blk_drew ?_ | refine blk_alloc ?_ _)); exact BK241.out⟩, ⟨by repeat (first | (with_reducible first | exact HB.out | apply below_alloc | apply pw_below_drewN | apply below_drew1 | refine below_set ?_ GE241.out) | exact HB.out)⟩⟩
    case round =>
      clear H'
      try clear c2
      try clear p2
      try clear c3
      try clear c7
      try clear hcz7_0
      try clear hcz7_1
      try clear hcz7_2
      try clear hcz9_0
      try clear hcz9_1
      try clear hcz9_2
      try clear hfz7_0
      try clear hfz7_1
      try clear hfz7_2
      try clear hfz9_0
      try clear hfz9_1
      try clear hfz9_2
      obtain ⟨x3_1, x14_1, rfl, HA, HK1, HO_3, BK241, HB⟩ := hrel
      cases gk with
      | zero => exact absurd HA.out (by simp [impl_RowKeys.l0])
      | succ k1 =>
        have H := HA.out
        clear HA
        simp only [impl_RowKeys.l0] at H
        by_cases c10 : x14_1 < (l0_2.length : Int)
        · rw [if_pos c10] at H
          have c10b0 : decide (x14_1 < (l0_2.length : Int)) = true := decide_eq_true c10
          clear c10
          by_cases c11 : 0 ≤ x14_1
          · rw [if_pos c11] at H
            have c11b0 : decide (0 ≤ x14_1) = true := decide_eq_true c11
            clear c11
            by_cases c12 : x14_1 < (l0_2.length : Int)
            · rw [if_pos c12] at H
              have c12b0 : decide (x14_1 < (l0_2.length : Int)) = true := decide_eq_true c12
              clear c12
              by_cases c13 : x3_1.length < 8796093022208
              · rw [if_pos c13] at H
                have LMc13 := Aside0.mk c13
                clear c13
                obtain ⟨y248, hy248⟩ : ∃ y_ : List ByteArray, y_ = (x3_1 ++ [(rd_T120 l0_2 x14_1).f0]) := ⟨_, rfl⟩
                replace H : (impl_RowKeys.l0 k1 y248 l0_2 (l0_2.length : Int) (wrap64 (x14_1 + 1))) = some r := by first | (rw [hy248]; with_reducible exact H) | (have H2_ := (Option.bind_some _ _).symm.trans H; rw [hy248]; with_reducible exact H2_) | (have H2_ := (Option.bind_some _ _).symm.trans H; with_reducible exact H2_) | with_reducible exact H | (rw [hy248]; exact H) | exact H
                have Ny248 := Aside0.mk hy248
                clear hy248
                have H' := Aside0.mk H
                clear H
                have p246 : 0 ≤ (x14_1 : Int) := of_decide_eq_true (by first | (with_reducible assumption) | assumption)
                have q246 : x14_1 < (l0_2.length : Int) := of_decide_eq_true (by first | (with_reducible assumption) | assumption)
                obtain ⟨ad246, e246, hx246_0, hx246_1, hx246_2⟩ := at_T120 HR0_2.out x14_1 p246 q246
                cases e246
                replace hx246_0 := (HB.out.cell (World.block_lt_of_cell? w _ hx246_0)).trans hx246_0
                replace hx246_1 := (HB.out.cell (World.block_lt_of_cell? w _ hx246_1)).trans hx246_1
                replace hx246_2 := (HB.out.cell (World.block_lt_of_cell? w _ hx246_2)).trans hx246_2
                replace p246 := eq_true p246
                replace q246 := eq_true q246
                go_wp2_with (first | ((with_reducible refine gate_dst (N := 5) rfl ?_); refine box_event ?hg (N := 5) ?hd (cs := #[.string (⟨#[]⟩ : ByteArray), .string (⟨#[]⟩ : ByteArray), .int .i64 0]) (t := 120) ?hr ?_; (case hd => rfl); (case hg => rfl); (case hr => first | (go_simp; done) | (go_simp; rfl)); intro gb247 hg w14 hbox hb; have n0_ := Aside0.mk (Kd.R_below (by (with_reducible repeat (first | apply Kd.R_alloc | apply Kd.R_drewN | apply Kd.R_drew)); exact HO_3.out) hb); have n1_ := Aside0.mk (blk_below (g := gb241) (o := .cells #[.int .i64 a0_0, .int .i64 a0_1, .slice (some ad246) l0_2.length c0_2] 34 (0, 0)) (by (with_reducible repeat (first | refine blk_drewN ?_ _ | refine blk_drew ?_ | refine blk_alloc ?_ _)); exact BK241.out) hb); have n2_ := Aside0.mk (below_step (by repeat (first | (with_reducible first | exact HB.out | apply below_alloc | apply pw_below_drewN | apply below_drew1 | refine below_set ?_ GE241.out) | exact HB.out)) hb); have n3_ := Aside0.mk (hbox); have n4_ := Aside0.mk ((by rw [hg]; exact (below_size (by repeat (first | (with_reducible first | exact HB.out | apply below_alloc | apply pw_below_drewN | apply below_drew1 | refine below_set ?_ GE241.out) | exact HB.out))) : w.heap.size ≤ gb247)); have n5_ := Aside0.mk ((by rw [hg]; exact (below_size (by repeat (first | (with_reducible first | exact HB.out | apply below_alloc | apply pw_below_drewN | apply below_drew1 | refine below_set ?_ GE241.out) | exact HB.out))) : w.heap.size ≤ gb247)); have n6_ := Aside0.mk ((by rw [hg]; exact Nat.ne_of_lt (blk_lt (g := gb241) (o := .cells #[.int .i64 a0_0, .int .i64 a0_1, .slice (some ad246) l0_2.length c0_2] 34 (0, 0)) (by (with_reducible repeat (first | refine blk_drewN ?_ _ | refine blk_drew ?_ | refine blk_alloc ?_ _)); exact BK241.out)) : gb241 ≠ gb247)); have n7_ := Aside0.mk ((by rw [hg]; exact Nat.ne_of_gt (blk_lt (g := gb241) (o := .cells #[.int .i64 a0_0, .int .i64 a0_1, .slice (some ad246) l0_2.length c0_2] 34 (0, 0)) (by (with_reducible repeat (first | refine blk_drewN ?_ _ | refine blk_drew ?_ | refine blk_alloc ?_ _)); exact BK241.out)) : gb247 ≠ gb241)); clear HO_3; clear BK241; clear HB; have HO_3 := n0_; have BK241 := n1_; have HB := n2_; have BK247 := n3_; have GW247 := n4_; have GE247 := n5_; have NB241_247 := n6_; have NB247_241 := n7_; clear n0_ n1_ n2_ n3_ n4_ n5_ n6_ n7_; clear hb hbox hg; have hnb15 := NB247_241.out; have hnc15 := NB241_247.out; have hcz16_0 : w14.cell? ⟨gb247, 0, none⟩ = some (.string (⟨#[]⟩ : ByteArray)) := (blk_cell BK247.out 0).trans rfl; have hcz16_1 : w14.cell? ⟨gb247, 1, none⟩ = some (.string (⟨#[]⟩ : ByteArray)) := (blk_cell BK247.out 1).trans rfl; have hcz16_2 : w14.cell? ⟨gb247, 2, none⟩ = some (.int .i64 0) := (blk_cell BK247.out 2).trans rfl; have hfz16_0 := blk_frozen BK247.out 0; have hfz16_1 := blk_frozen BK247.out 1; have hfz16_2 := blk_frozen BK247.out 2) | ((with_reducible refine gate_builtin (b := .append) (xs := #[.tmp 18, .tmp 21]) rfl ?_); at_builtin; refine Kd.R_append Kd.string (w0 := w) w.heap.size rfl (.tmp 18) (.tmp 21) 23 9 (.string ⟨#[]⟩) 16 rfl Try.underlying23 info9 rfl (by decide) (by omega) u3 x3_1 ((rd_T120 l0_2 x14_1).f0) [.string ((rd_T120 l0_2 x14_1).f0)] (fun _ => True) (fun _ => False) rfl (by first | (go_simp; done) | (go_simp; rfl)) ?aP (fun _ hk => hk.elim) ?aF ?aO ?aB ?aS ?aL ?_; (case aP => exact rfl); (case aB => exact (by repeat (first | (with_reducible first | exact HB.out | apply below_alloc | apply pw_below_drewN | apply below_drew1 | refine below_set ?_ GE241.out | refine below_set ?_ GE247.out) | exact HB.out))); (case aF => exact (fun _ _ => trivial)); (case aO => exact (by (with_reducible repeat (first | apply Kd.R_alloc | apply Kd.R_drewN | apply Kd.R_drew)); exact Kd.R_mono (Kd.R_far (p := ⟨gb247, 2, none⟩) (Kd.R_far (p := ⟨gb247, 1, none⟩) (Kd.R_far (p := ⟨gb247, 0, none⟩) (Kd.R_types HO_3.out BK247.out (by decide)) (fun _ hk => hk.2) (.string ((rd_T120 l0_2 x14_1).f0))) (fun _ hk => hk.2) (.string ((rd_T120 l0_2 x14_1).f1))) (fun _ hk => hk.2) (.int .i64 ((rd_T120 l0_2 x14_1).f2))) (fun _ hk => trivial))); (case aS => exact (below_size (by repeat (first | (with_reducible first | exact HB.out | apply below_alloc | apply pw_below_drewN | apply below_drew1 | refine below_set ?_ GE241.out | refine below_set ?_ GE247.out) | exact HB.out)))); (case aL => have := LMc13.out; omega); intro v249 w17 ho hb hg hat; rw [← Ny248.out] at ho; have n0_ := Aside0.mk (blk_grown (g := gb241) (o := .cells #[.int .i64 a0_0, .int .i64 a0_1, .slice (some ad246) l0_2.length c0_2] 34 (0, 0)) (by (with_reducible repeat (first | refine blk_drewN ?_ _ | refine blk_drew ?_ | refine blk_alloc ?_ _)); refine blk_far ?_ NB241_247.out _; (with_reducible repeat (first | refine blk_drewN ?_ _ | refine blk_drew ?_ | refine blk_alloc ?_ _)); refine blk_far ?_ NB241_247.out _; (with_reducible repeat (first | refine blk_drewN ?_ _ | refine blk_drew ?_ | refine blk_alloc ?_ _)); refine blk_far ?_ NB241_247.out _; (with_reducible repeat (first | refine blk_drewN ?_ _ | refine blk_drew ?_ | refine blk_alloc ?_ _)); exact BK241.out) hg (Kd.R_ne HO_3.out BK241.out (by decide))); have n1_ := Aside0.mk (blk_grown (g := gb247) (o := .cells #[.string ((rd_T120 l0_2 x14_1).f0), .string ((rd_T120 l0_2 x14_1).f1), .int .i64 ((rd_T120 l0_2 x14_1).f2)] 120 (0, 0)) (by (with_reducible repeat (first | refine blk_drewN ?_ _ | refine blk_drew ?_ | refine blk_alloc ?_ _)); refine blk_put (cs := #[.string ((rd_T120 l0_2 x14_1).f0), .string ((rd_T120 l0_2 x14_1).f1), .int .i64 0]) ?_ 2 _ rfl; (with_reducible repeat (first | refine blk_drewN ?_ _ | refine blk_drew ?_ | refine blk_alloc ?_ _)); refine blk_put (cs := #[.string ((rd_T120 l0_2 x14_1).f0), .string (⟨#[]⟩ : ByteArray), .int .i64 0]) ?_ 1 _ rfl; (with_reducible repeat (first | refine blk_drewN ?_ _ | refine blk_drew ?_ | refine blk_alloc ?_ _)); refine blk_put (cs := #[.string (⟨#[]⟩ : ByteArray), .string (⟨#[]⟩ : ByteArray), .int .i64 0]) ?_ 0 _ rfl; (with_reducible repeat (first | refine blk_drewN ?_ _ | refine blk_drew ?_ | refine blk_alloc ?_ _)); exact BK247.out) hg (Kd.R_ne HO_3.out BK247.out (by decide))); have n2_ := Aside0.mk (hb); have n3_ := Aside0.mk (ho); clear BK241; clear BK247; clear HB; clear HO_3; have BK241 := n0_; have BK247 := n1_; have HB := n2_; have HO250 := n3_; clear n0_ n1_ n2_ n3_; clear ho hb hg hat))
                go_roundg k1
                case measure => have := HK1.out; omega
                case rel => exact ⟨(y248), (wrap64 (x14_1 + 1)), (by first | rfl | (simp; done) | (simp [*]; done)), H', ⟨by have := HK1.out; omega⟩, ⟨by (with_reducible repeat (first | apply Kd.R_alloc | apply Kd.R_drewN | apply Kd.R_drew)); exact HO250.out⟩, ⟨by (with_reducible repeat (first | refine blk_drewN ?_ _ | refine blk_drew ?_ | refine blk_alloc ?_ _)); exact BK241.out⟩, ⟨by repeat (first | (with_reducible first | exact HB.out | apply below_alloc | apply pw_below_drewN | apply below_drew1 | refine below_set ?_ GE241.out | refine below_set ?_ GE247.out) | exact HB.out)⟩⟩
              · rw [if_neg c13] at H
                exact absurd H (by simp)
            · rw [if_neg c12] at H
              exact absurd H (by simp)
          · rw [if_neg c11] at H
            exact absurd H (by simp)
        · rw [if_neg c10] at H
          have c10b0 : decide (x14_1 < (l0_2.length : Int)) = false := decide_eq_false c10
          clear c10
          obtain rfl := Option.some.inj H
          go_wp2
          go_ret
          exact ⟨_, by first | rfl | (simp [errW_none, errW_some] <;> rfl) | (simp [*, errW_none, errW_some] <;> rfl), by (with_reducible repeat (first | apply Kd.R_alloc | apply Kd.R_drewN | apply Kd.R_drew)); exact HO_3.out, by repeat (first | (with_reducible first | exact HB.out | apply below_alloc | apply pw_below_drewN | apply below_drew1 | refine below_set ?_ GE241.out) | exact HB.out)⟩
  · replace c3 := Bool.eq_false_iff.mpr c3
    subst c3
    have H1 : (some y242) = some r := by rw [if_neg (show ¬ (false = true) by decide)] at H; exact H
    clear H
    have H := H1
    clear H1
    obtain rfl := Option.some.inj H
    go_enter Try.func23, Try.ntmps23
    go_wp2_with (first | ((with_reducible refine gate_dst (N := 1) rfl ?_); refine box_event ?hg (N := 1) ?hd (cs := #[.int .i64 a0_0, .int .i64 a0_1, .slice A0_2 l0_2.length c0_2]) (t := 34) ?hr ?_; (case hd => rfl); (case hg => rfl); (case hr => first | (go_simp; done) | (go_simp; rfl)); intro gb241 hg w18 hbox hb; have n0_ := Aside0.mk (below_step (by repeat (first | (with_reducible first | exact HB.out | apply below_alloc | apply pw_below_drewN | apply below_drew1) | exact HB.out)) hb); have n1_ := Aside0.mk (hbox); have n2_ := Aside0.mk ((by rw [hg]; exact (below_size (by repeat (first | (with_reducible first | exact HB.out | apply below_alloc | apply pw_below_drewN | apply below_drew1) | exact HB.out))) : w.heap.size ≤ gb241)); have n3_ := Aside0.mk ((by rw [hg]; exact (below_size (by repeat (first | (with_reducible first | exact HB.out | apply below_alloc | apply pw_below_drewN | apply below_drew1) | exact HB.out))) : w.heap.size ≤ gb241)); clear HB; have HB := n0_; have BK241 := n1_; have GW241 := n2_; have GE241 := n3_; clear n0_ n1_ n2_ n3_; clear hb hbox hg) | ((with_reducible refine gate_dst (N := 6) rfl ?_); refine Kd.R_lit Kd.string _ 9 ?hg (N := 6) ?hd (xs := ([] : List ByteArray)) (inner := []) (ok := fun _ => True) (okp := fun _ => True) ?hr ?hp (fun _ hk => hk) trivial (Below.refl _ _) (Nat.le_refl _) (by simp) ?_; (case hd => rfl); (case hg => rfl); (case hr => first | (go_simp; done) | (go_simp; rfl)); (case hp => exact (Reps.none _ _)); intro v243 w19 ho20 hb hg_ hnew_; clear hg_ hnew_; (first | rw [← Ny242.out] at ho20 | (simp only [Int.reduceToNat] at ho20; rw [← Ny242.out] at ho20)); have n0_ := Aside0.mk (Kd.R_lower ho20 (below_size (by repeat (first | (with_reducible first | exact HB.out | apply below_alloc | apply pw_below_drewN | apply below_drew1 | refine below_set ?_ GE241.out) | exact HB.out)))); have n1_ := Aside0.mk (blk_below (g := gb241) (o := .cells #[.int .i64 a0_0, .int .i64 a0_1, .slice A0_2 l0_2.length c0_2] 34 (0, 0)) (by (with_reducible repeat (first | refine blk_drewN ?_ _ | refine blk_drew ?_ | refine blk_alloc ?_ _)); exact BK241.out) hb); have n2_ := Aside0.mk (below_step (by repeat (first | (with_reducible first | exact HB.out | apply below_alloc | apply pw_below_drewN | apply below_drew1 | refine below_set ?_ GE241.out) | exact HB.out)) hb); clear BK241; clear HB; have HO244 := n0_; have BK241 := n1_; have HB := n2_; clear n0_ n1_ n2_; clear hb ho20; have hcz21_0 : w19.cell? ⟨gb241, 0, none⟩ = some (.int .i64 a0_0) := (blk_cell BK241.out 0).trans rfl; have hcz21_1 : w19.cell? ⟨gb241, 1, none⟩ = some (.int .i64 a0_1) := (blk_cell BK241.out 1).trans rfl; have hcz21_2 : w19.cell? ⟨gb241, 2, none⟩ = some (.slice A0_2 l0_2.length c0_2) := (blk_cell BK241.out 2).trans rfl; have hfz21_0 := blk_frozen BK241.out 0; have hfz21_1 := blk_frozen BK241.out 1; have hfz21_2 := blk_frozen BK241.out 2) | ((with_reducible refine gate_callee (f := 77) rfl ?_); refine goesL_ (some 8) rfl rfl Try.func77 (by kernel_rfl) rfl #[.agg #[.int .i64 a0_0, .int .i64 a0_1, .slice A0_2 l0_2.length c0_2]] rfl (by (try simp only [List.map_toArray, List.map_cons, List.map_nil]); first | done | rfl | (simp only [List.length_drop, List.length_take]; rfl)) ?_; (with_reducible refine (impl_RowOk.calls k a0_0 a0_1 _ _ l0_2 false _ ?side1 ?side2 A2.out).mono ?_); (case side1 => repeat (first | exact (Kd.C_below HR0_2.out HB.out) | (with_reducible refine Kd.C_alloc ?_ _) | (with_reducible refine Kd.C_drewN ?_ _) | (with_reducible refine Kd.C_drew ?_))); (case side2 => exact HC0_2.out); rintro e w22 ⟨rfl, hb⟩; refine ⟨_, rfl, ?_⟩; have n0_ := Aside0.mk (Kd.R_below (by (with_reducible repeat (first | apply Kd.R_alloc | apply Kd.R_drewN | apply Kd.R_drew)); exact HO244.out) hb); have n1_ := Aside0.mk (blk_below (g := gb241) (o := .cells #[.int .i64 a0_0, .int .i64 a0_1, .slice A0_2 l0_2.length c0_2] 34 (0, 0)) (by (with_reducible repeat (first | refine blk_drewN ?_ _ | refine blk_drew ?_ | refine blk_alloc ?_ _)); exact BK241.out) hb); have n2_ := Aside0.mk (below_step (by repeat (first | (with_reducible first | exact HB.out | apply below_alloc | apply pw_below_drewN | apply below_drew1 | refine below_set ?_ GE241.out) | exact HB.out)) hb); clear HO244; clear BK241; clear HB; have HO244 := n0_; have BK241 := n1_; have HB := n2_; clear n0_ n1_ n2_; (try clear hb); (try clear hb2); (try clear hk); (try clear hi)))
    go_ret
    exact ⟨_, by first | rfl | (simp [errW_none, errW_some] <;> rfl) | (simp [*, errW_none, errW_some] <;> rfl), by (with_reducible repeat (first | apply Kd.R_alloc | apply Kd.R_drewN | apply Kd.R_drew)); exact HO244.out, by repeat (first | (with_reducible first | exact HB.out | apply below_alloc | apply pw_below_drewN | apply below_drew1 | refine below_set ?_ GE241.out) | exact HB.out)⟩

end Go.Proofs.Ytkaahabgbngodaa.Core

namespace Go.Proofs.Ytkaahabgbngodaa.Core
open Go.RowKit Go.Proofs.YtkaahabgbngodaaW.PrintWords Go.Proofs.YtkaahabgbngodaaW.PrintLast Go.Proofs.YtkaahabgbngodaaW.PrintMore
attribute [local go_sem] max2_int min2_int max_two min_two max_three min_three max_four min_four   -- for this text's walks alone
set_option linter.unusedVariables false
set_option linter.unusedSimpArgs false

/-! ### impl_SetupOk: function 33 -/
set_option maxHeartbeats 8000000 in
set_option maxRecDepth 100000 in
theorem impl_SetupOk.row (k : Nat) (k1 cp mo : Int) (rk rc : Int) (ri : List S120) (ok : Bool) (w : World) (hk : k1 ≠ 4) (h : impl_RowNew.f k k1 cp = some (rk, rc, ri, ok)) :
    Calls Try.prog 33 #[.agg #[.int .i64 k1, .int .i64 cp, .int .i64 mo]] w fun e w' => e = .returned (.bool (ok && decide (mo = 0))) ∧ Below w.heap.size w w' := by
  have H := Aside0.mk h
  have hk' : (k1 == 4) = false := by simpa using hk
  clear h
  cases ok with
  | true =>
    go_enter Try.func33, Try.ntmps33
    go_wp2_with (first | (go_at_call 20; (with_reducible refine (impl_RowNew.calls k k1 cp rk rc ri true _ H.out).mono ?_); rintro e w1 ⟨v, rfl, ho, hb⟩; obtain ⟨A1, c1, rfl⟩ := Kd.R_slice ho; have B1 := Aside0.mk (show w1.heap[w.heap.size]? = some (.cells #[.int .i64 k1, .int .i64 cp, .int .i64 mo] 28 (0, 0)) from blk_below (blk_new w _) hb); have HB1 := Aside0.mk (below_step ((Below.refl w.heap.size w).alloc (Nat.le_refl _) _) hb); clear ho hb; obtain ⟨⟨p0, p1, p2⟩, q0, q1, q2⟩ := cells3 B1.out; obtain ⟨⟨p3, p4, p5⟩, q3, q4, q5⟩ := cells3 (blk_alloc B1.out (.cells #[.int .i64 rk, .int .i64 rc, .slice A1 ri.length c1] 34))))
    go_ret
    refine ⟨by first | rfl | (simp; done) | (simp [*]; done), ?_⟩
    repeat (first | exact HB1.out | exact HB1.out.alloc (below_size HB1.out) _ | apply below_alloc)
  | false =>
    go_enter Try.func33, Try.ntmps33
    go_wp2_with (first | (go_at_call 20; (with_reducible refine (impl_RowNew.calls k k1 cp rk rc ri false _ H.out).mono ?_); rintro e w1 ⟨v, rfl, ho, hb⟩; obtain ⟨A1, c1, rfl⟩ := Kd.R_slice ho; have B1 := Aside0.mk (show w1.heap[w.heap.size]? = some (.cells #[.int .i64 k1, .int .i64 cp, .int .i64 mo] 28 (0, 0)) from blk_below (blk_new w _) hb); have HB1 := Aside0.mk (below_step ((Below.refl w.heap.size w).alloc (Nat.le_refl _) _) hb); clear ho hb; obtain ⟨⟨p0, p1, p2⟩, q0, q1, q2⟩ := cells3 B1.out; obtain ⟨⟨p3, p4, p5⟩, q3, q4, q5⟩ := cells3 (blk_alloc B1.out (.cells #[.int .i64 rk, .int .i64 rc, .slice A1 ri.length c1] 34))))
    go_ret
    refine ⟨by first | rfl | (simp; done) | (simp [*]; done), ?_⟩
    repeat (first | exact HB1.out | exact HB1.out.alloc (below_size HB1.out) _ | apply below_alloc)
def impl_SetupOk.f (k : Nat) (a0_0 a0_1 a0_2 : Int) : Option Bool :=
  if a0_0 = 4 then none else (impl_RowNew.f k a0_0 a0_1).bind fun n => some (n.2.2.2 && decide (a0_2 = 0))
theorem impl_SetupOk.mono : ∀ a0 a1 a2 k, LeO (impl_SetupOk.f k a0 a1 a2) (impl_SetupOk.f (k + 1) a0 a1 a2) := by
  intro a0 a1 a2 k
  unfold impl_SetupOk.f
  exact LeO.ite (LeO.none _) (LeO.bind (impl_RowNew.mono _ _ _) (fun _ => LeO.refl _))
theorem impl_SetupOk.calls (k : Nat) (a0_0 a0_1 a0_2 : Int) (r : Bool) (w : World) (h : impl_SetupOk.f k a0_0 a0_1 a0_2 = some r) :
    Calls Try.prog 33 #[.agg #[.int .i64 a0_0, .int .i64 a0_1, .int .i64 a0_2]] w fun e w' => e = .returned (.bool r) ∧ Below w.heap.size w w' := by
  unfold impl_SetupOk.f at h
  by_cases c : a0_0 = 4
  · rw [if_pos c] at h; exact absurd h (by simp)
  · rw [if_neg c] at h
    obtain ⟨⟨rk, rc, ri, ok⟩, h1, h2⟩ := Option.bind_eq_some_iff.mp h
    obtain rfl := Option.some.inj h2
    exact impl_SetupOk.row k _ _ _ rk rc ri ok w c h1

end Go.Proofs.Ytkaahabgbngodaa.Core

namespace Go.Proofs.Ytkaahabgbngodaa.Core
open Go.RowKit Go.Proofs.YtkaahabgbngodaaW.PrintWords Go.Proofs.YtkaahabgbngodaaW.PrintLast Go.Proofs.YtkaahabgbngodaaW.PrintMore
attribute [local go_sem] max2_int min2_int max_two min_two max_three min_three max_four min_four   -- for this text's walks alone
set_option linter.unusedVariables false
set_option linter.unusedSimpArgs false

/-! ### impl_AsksOk: function 37 -/
def impl_AsksOk.l0 : Nat → List ByteArray → List ByteArray → Int → Int → Option (Bool)
  | 0, _, _, _, _ => none
  | k + 1, x0, x5, x6, x7 => if x7 < x6 then (if 0 ≤ x7 then (if x7 < (x5.length : Int) then ((impl_ItemOk.f k (rdOf ByteArray.empty x5 x7) (⟨#[]⟩ : ByteArray) 0).bind fun t220 => (if t220 = true then (impl_AsksOk.l0 k x0 x5 x6 (wrap64 (x7 + 1))) else (some false))) else (none)) else (none)) else (some (decide ((x0.length : Int) ≤ 300)))
def impl_AsksOk.f (k : Nat) (l0 : List ByteArray) : Option (Bool) := impl_AsksOk.l0 k l0 l0 (l0.length : Int) 0
theorem impl_AsksOk.mono_l : ∀ k, (∀ y0 y1 y2 y3, LeO (impl_AsksOk.l0 k y0 y1 y2 y3) (impl_AsksOk.l0 (k + 1) y0 y1 y2 y3))
  | 0 => fun _ _ _ _ r h => by simp [impl_AsksOk.l0] at h
  | k + 1 => by
    have ih0 := impl_AsksOk.mono_l k
    · intro y0 y1 y2 y3
      unfold impl_AsksOk.l0
      repeat' first
      | (with_reducible exact ih0 _ _ _ _)
      | (with_reducible exact impl_ItemOk.mono _ _ _ _)
      | (with_reducible exact LeO.refl _)
      | (with_reducible exact LeO.none _)
      | (with_reducible refine LeO.ite ?_ ?_)
      | (with_reducible refine LeO.bind ?_ (fun _ => ?_))
      | exact ih0 _ _ _ _
      | exact impl_ItemOk.mono _ _ _ _
      | exact LeO.none _
      | refine LeO.ite ?_ ?_
      | refine LeO.bind ?_ (fun _ => ?_)
theorem impl_AsksOk.mono : ∀ a0 k, LeO (impl_AsksOk.f k a0) (impl_AsksOk.f (k + 1) a0) := by
  intro a0 k
  have ih0 := impl_AsksOk.mono_l k
  unfold impl_AsksOk.f
  repeat' first
      | (with_reducible exact ih0 _ _ _ _)
      | (with_reducible exact impl_ItemOk.mono _ _ _ _)
      | (with_reducible exact LeO.refl _)
      | (with_reducible exact LeO.none _)
      | (with_reducible refine LeO.ite ?_ ?_)
      | (with_reducible refine LeO.bind ?_ (fun _ => ?_))
      | exact ih0 _ _ _ _
      | exact impl_ItemOk.mono _ _ _ _
      | exact LeO.none _
      | refine LeO.ite ?_ ?_
      | refine LeO.bind ?_ (fun _ => ?_)
set_option maxHeartbeats 8000000 in
set_option maxRecDepth 100000 in
theorem impl_AsksOk.calls (k : Nat) (A0 : Option Addr) (c0 : Nat) (l0 : List ByteArray) (r : Bool) (w : World) (hr0 : Kd.C Kd.string w A0 l0.length l0) (hc0 : l0.length ≤ c0) (h : impl_AsksOk.f k l0 = some r) :
    Calls Try.prog 37 #[.slice A0 l0.length c0] w fun e w' => e = .returned (.bool r) ∧ Below w.heap.size w w' := by
  have hu120 := Try.underlying120
  have HR0 := Aside0.mk hr0
  have HC0 := Aside0.mk hc0
  clear hr0 hc0
  have HB := Aside0.mk (Below.refl w.heap.size w)
  have H : (impl_AsksOk.l0 k l0 l0 (l0.length : Int) 0) = some r := h
  clear h
  have H' := Aside0.mk H
  clear H
  go_enter Try.func37, Try.ntmps37
  go_wp2
  go_loopg [7] k (fun kq v7 w' => ∃ (x7_1 : Int), v7 = .int .i64 x7_1 ∧ Aside0 (impl_AsksOk.l0 kq l0 l0 (l0.length : Int) x7_1 = some r) ∧ Aside0 (kq ≤ k) ∧ Aside0 (Below w.heap.size w w'))
  case atStart => exact ⟨(0), (by first | rfl | (simp; done) | (simp [*]; done)), H', ⟨Nat.le_refl _⟩, ⟨by repeat (first | (with_reducible first | exact HB.out | apply below_alloc | apply pw_below_drewN | apply below_drew1) | exact HB.out)⟩⟩
  case round =>
    clear H'
    obtain ⟨x7_1, rfl, HA, HK1, HB⟩ := hrel
    cases gk with
    | zero => exact absurd HA.out (by simp [impl_AsksOk.l0])
    | succ k1 =>
      have H := HA.out
      clear HA
      simp only [impl_AsksOk.l0] at H
      by_cases c2 : x7_1 < (l0.length : Int)
      · rw [if_pos c2] at H
        have c2b0 : decide (x7_1 < (l0.length : Int)) = true := decide_eq_true c2
        clear c2
        by_cases c3 : 0 ≤ x7_1
        · rw [if_pos c3] at H
          have c3b0 : decide (0 ≤ x7_1) = true := decide_eq_true c3
          clear c3
          by_cases c4 : x7_1 < (l0.length : Int)
          · rw [if_pos c4] at H
            have c4b0 : decide (x7_1 < (l0.length : Int)) = true := decide_eq_true c4
            clear c4
            replace H := Option.bind_eq_some_iff.mp H
            obtain ⟨t220, A50, H⟩ := H
            replace H : (if t220 = true then (impl_AsksOk.l0 k1 l0 l0 (l0.length : Int) (wrap64 (x7_1 + 1))) else (some false)) = some r := H
            have A5 := Aside0.mk A50
            clear A50
            by_cases c6 : t220 = true
            · subst c6
              have H1 : (impl_AsksOk.l0 k1 l0 l0 (l0.length : Int) (wrap64 (x7_1 + 1))) = some r := by rw [if_pos rfl] at H; exact H
              clear H
              have H := H1
              clear H1
              have H' := Aside0.mk H
              clear H
              have p219 : 0 ≤ (x7_1 : Int) := of_decide_eq_true (by first | (with_reducible assumption) | assumption)
              have q219 : x7_1 < (l0.length : Int) := of_decide_eq_true (by first | (with_reducible assumption) | assumption)
              obtain ⟨ad219, e219, hx219_0⟩ := Kd.at_string HR0.out x7_1 p219 q219
              cases e219
              replace hx219_0 := (HB.out.cell (World.block_lt_of_cell? w _ hx219_0)).trans hx219_0
              replace p219 := eq_true p219
              replace q219 := eq_true q219
              go_wp2_with (first | ((with_reducible refine gate_callee (f := 78) rfl ?_); refine goesL_ (some 13) rfl rfl Try.func78 (by kernel_rfl) rfl #[.agg #[.string (rdOf ByteArray.empty l0 x7_1), .string (⟨#[]⟩ : ByteArray), .int .i64 0]] rfl (by (try simp only [List.map_toArray, List.map_cons, List.map_nil]); first | done | rfl | (simp only [List.length_drop, List.length_take]; rfl)) ?_; (with_reducible refine (impl_ItemOk.calls k1 (rdOf ByteArray.empty l0 x7_1) (⟨#[]⟩ : ByteArray) 0 true _ A5.out).mono ?_); rintro e w7 ⟨rfl, hb⟩; refine ⟨_, rfl, ?_⟩; have n0_ := Aside0.mk (below_step (by repeat (first | (with_reducible first | exact HB.out | apply below_alloc | apply pw_below_drewN | apply below_drew1) | exact HB.out)) hb); clear HB; have HB := n0_; clear n0_; (try clear hb); (try clear hb2); (try clear hk); (try clear hi)))
              go_roundg k1
              case measure => have := HK1.out; omega
              case rel => exact ⟨(wrap64 (x7_1 + 1)), (by first | rfl | (simp; done) | (simp [*]; done)), H', ⟨by have := HK1.out; omega⟩, ⟨by repeat (first | (with_reducible first | exact HB.out | apply below_alloc | apply pw_below_drewN | apply below_drew1) | exact HB.out)⟩⟩
            · replace c6 := Bool.eq_false_iff.mpr c6
              subst c6
              have H1 : (some false) = some r := by rw [if_neg (show ¬ (false = true) by decide)] at H; exact H
              clear H
              have H := H1
              clear H1
              obtain rfl := Option.some.inj H
              have p219 : 0 ≤ (x7_1 : Int) := of_decide_eq_true (by first | (with_reducible assumption) | assumption)
              have q219 : x7_1 < (l0.length : Int) := of_decide_eq_true (by first | (with_reducible assumption) | assumption)
              obtain ⟨ad219, e219, hx219_0⟩ := Kd.at_string HR0.out x7_1 p219 q219
              cases e219
              replace hx219_0 := (HB.out.cell (World.block_lt_of_cell? w _ hx219_0)).trans hx219_0
              replace p219 := eq_true p219
              replace q219 := eq_true q219
              go_wp2_with (first | ((with_reducible refine gate_callee (f := 78) rfl ?_); refine goesL_ (some 13) rfl rfl Try.func78 (by kernel_rfl) rfl #[.agg #[.string (rdOf ByteArray.empty l0 x7_1), .string (⟨#[]⟩ : ByteArray), .int .i64 0]] rfl (by (try simp only [List.map_toArray, List.map_cons, List.map_nil]); first | done | rfl | (simp only [List.length_drop, List.length_take]; rfl)) ?_; (with_reducible refine (impl_ItemOk.calls k1 (rdOf ByteArray.empty l0 x7_1) (⟨#[]⟩ : ByteArray) 0 false _ A5.out).mono ?_); rintro e w8 ⟨rfl, hb⟩; refine ⟨_, rfl, ?_⟩; have n0_ := Aside0.mk (below_step (by repeat (first | (with_reducible first | exact HB.out | apply below_alloc | apply pw_below_drewN | apply below_drew1) | exact HB.out)) hb); clear HB; have HB := n0_; clear n0_; (try clear hb); (try clear hb2); (try clear hk); (try clear hi)))
              go_ret
              exact ⟨by first | rfl | (simp [errW_none, errW_some] <;> rfl) | (simp [*, errW_none, errW_some] <;> rfl), by repeat (first | (with_reducible first | exact HB.out | apply below_alloc | apply pw_below_drewN | apply below_drew1) | exact HB.out)⟩
          · rw [if_neg c4] at H
            exact absurd H (by simp)
        · rw [if_neg c3] at H
          exact absurd H (by simp)
      · rw [if_neg c2] at H
        have c2b0 : decide (x7_1 < (l0.length : Int)) = false := decide_eq_false c2
        clear c2
        obtain rfl := Option.some.inj H
        go_wp2
        go_ret
        exact ⟨by first | rfl | (simp [errW_none, errW_some] <;> rfl) | (simp [*, errW_none, errW_some] <;> rfl), by repeat (first | (with_reducible first | exact HB.out | apply below_alloc | apply pw_below_drewN | apply below_drew1) | exact HB.out)⟩

end Go.Proofs.Ytkaahabgbngodaa.Core

namespace Go.Proofs.Ytkaahabgbngodaa.Core
open Go.RowKit Go.Proofs.YtkaahabgbngodaaW.PrintWords Go.Proofs.YtkaahabgbngodaaW.PrintLast Go.Proofs.YtkaahabgbngodaaW.PrintMore
attribute [local go_sem] max2_int min2_int max_two min_two max_three min_three max_four min_four   -- for this text's walks alone
set_option linter.unusedVariables false
set_option linter.unusedSimpArgs false

/-! ### impl_cache_ask: function 137 -/
/-- An asking of a row: what it becomes, whether the key was found, how many went. -/
def askRow (k : Nat) (rk rc : Int) (ri : List S120) (key : ByteArray) : Option (Int × Int × List S120 × Bool × Int) :=
  (impl_RowGet.f k rk rc ri key).bind fun g => if g.2.2.2.2 = true then some (g.1, g.2.1, g.2.2.1, true, 0) else (impl_RowPut.f k rk rc ri key (⟨#[]⟩ : ByteArray)).bind fun p => some (p.1, p.2.1, p.2.2.1, false, (p.2.2.2.1.length : Int))
/-- A cache that is a row, at block g. -/
def RowAt (W : World) (g : Nat) (base : Nat) (rk rc : Int) (ri : List S120) : Prop := ∃ V, W.heap[g]? = some (.cells #[.int .i64 rk, .int .i64 rc, V, .int .i64 0, .int .i64 0, .slice none 0 0, .slice none 0 0, .slice none 0 0] 169 (0, 0)) ∧ Kd.R k120 120 W base (fun _ => True) V ri
theorem RowAt.below {W W1 : World} {g base : Nat} {rk rc : Int} {ri : List S120} (h : RowAt W g base rk rc ri) (hb : Below W.heap.size W W1) : RowAt W1 g base rk rc ri := by
  obtain ⟨V, h1, h2⟩ := h
  exact ⟨V, blk_below h1 hb, Kd.R_below h2 hb⟩
theorem cells4 {w : World} {g t : Nat} {cs : Array Value} {a b c d : Value} {r : List Value} (h : w.heap[g]? = some (.cells cs t (0, 0))) (hc : cs.toList = a :: b :: c :: d :: r) : w.cell? ⟨g, 0, none⟩ = some a ∧ w.cell? ⟨g, 1, none⟩ = some b ∧ w.cell? ⟨g, 2, none⟩ = some c ∧ w.cell? ⟨g, 3, none⟩ = some d ∧ w.frozen? ⟨g, 0, none⟩ = false ∧ w.frozen? ⟨g, 1, none⟩ = false ∧ w.frozen? ⟨g, 2, none⟩ = false := by
  have e : ∀ i : Nat, cs[i]? = (a :: b :: c :: d :: r)[i]? := fun i => by rw [← hc]; simp
  exact ⟨(blk_cell h 0).trans (e 0), (blk_cell h 1).trans (e 1), (blk_cell h 2).trans (e 2), (blk_cell h 3).trans (e 3), blk_frozen h 0, blk_frozen h 1, blk_frozen h 2⟩
theorem below_base {B : Nat} {w0 w w1 : World} (h : Below B w0 w) (hB : B ≤ w.heap.size) (k : Below w.heap.size w w1) : Below B w0 w1 := below_then h hB k
set_option maxHeartbeats 8000000 in
set_option maxRecDepth 100000 in
theorem impl_cache_ask.hit (k : Nat) (g base : Nat) (rk rc : Int) (ri : List S120) (key : ByteArray) (r1 r2 : Int) (r3 : List S120) (r4 : ByteArray) (w0 w : World)
    (hg : RowAt w g base rk rc ri) (HB : Below base w0 w) (hbase : base ≤ g) (h : impl_RowGet.f k rk rc ri key = some (r1, r2, r3, r4, true)) :
    Calls Try.prog 137 #[.pointer (some ⟨g, 0, none⟩), .string key] w fun e w' => e = .returned (.tuple #[.bool true, .int .i64 0]) ∧ RowAt w' g base r1 r2 r3 ∧ Below base w0 w' ∧ KeepBut w w' g none := by
  obtain ⟨V, hb, hr⟩ := hg
  obtain ⟨A, c, rfl, hlc, hC⟩ := Kd.R_reads hr
  have H := Aside0.mk h
  have HBK := Aside0.mk hb
  have HC := Aside0.mk hC
  have HLC := Aside0.mk hlc
  have HB0 := Aside0.mk HB
  obtain ⟨p0, p1, p2, p3, q0, q1, q2⟩ := cells4 hb rfl
  clear h hb hC hlc HB hr
  go_enter Try.func137, Try.ntmps137
  have HBS : Aside0 (base ≤ w.heap.size) := ⟨Nat.le_of_lt (Nat.lt_of_le_of_lt hbase (blk_lt HBK.out))⟩
  go_wp2_with (first | (go_at_call 22; (with_reducible refine (impl_RowGet.calls k rk rc A c ri key r1 r2 r3 r4 true _ HC.out HLC.out H.out).mono ?_); rintro e w1 ⟨v, rfl, ho, hb⟩; obtain ⟨A1, c1, rfl⟩ := Kd.R_slice ho; have B1 := Aside0.mk (blk_below HBK.out hb); have HO1 := Aside0.mk (Kd.R_lower ho HBS.out); have HB1 := Aside0.mk (below_base HB0.out HBS.out hb); have HK1 := Aside0.mk (KeepBut.of_below hb g none); clear ho hb p0 p1 p2 p3 q0 q1 q2; obtain ⟨p0, p1, p2, p3, q0, q1, q2⟩ := cells4 B1.out rfl) | ((with_reducible refine gate_dst (N := 60) rfl ?_); refine Kd.R_lit Kd.string _ 9 ?hg (N := 60) ?hd (xs := ([] : List ByteArray)) (inner := []) (ok := fun _ => True) (okp := fun _ => True) ?hr ?hp (fun _ hk => hk) trivial (Below.refl _ _) (Nat.le_refl _) (by simp) ?_; (case hd => rfl); (case hg => rfl); (case hr => first | (go_simp; done) | (go_simp; rfl)); (case hp => exact (Reps.none _ _)); intro vg w2 hog hb hgx hnew; clear hgx hnew; obtain ⟨Ag, cg, rfl⟩ := Kd.R_slice hog; have B2 := Aside0.mk (blk_below (blk_alloc B1.out _) hb); have T2 := Aside0.mk (blk_below (blk_new w1 _) hb); have HO2 := Aside0.mk (Kd.R_below (Kd.R_alloc HO1.out _) hb); have HB2 := Aside0.mk (below_base (HB1.out.alloc (Nat.le_trans HBS.out HK1.out.1) _) (Nat.le_trans (Nat.le_trans HBS.out HK1.out.1) (by simp)) hb); have HK2 := Aside0.mk (KeepBut.trans HK1.out (KeepBut.of_below (below_step (below_alloc (Below.refl _ _) _) hb) g none) (.inl rfl)); have NE := Aside0.mk (show w1.heap.size ≠ g from Nat.ne_of_gt (blk_lt B1.out)); clear hb hog p0 p1 p2 p3 q0 q1 q2; obtain ⟨p0, p1, p2, p3, q0, q1, q2⟩ := cells4 B2.out rfl; obtain ⟨⟨p4, p5, p6⟩, q4, q5, q6⟩ := cells3 T2.out))
  go_ret2
  exact ⟨rfl, ⟨_, blk_put (blk_put (blk_put B2.out 0 _ rfl) 1 _ rfl) 2 _ rfl, R_put3g HO2.out B2.out (by decide) _ _ _⟩, ((HB2.out.setCell (by exact hbase) _).setCell (by exact hbase) _).setCell (by exact hbase) _, ((HK2.out.set_ 0 _).set_ 1 _).set_ 2 _⟩
set_option maxHeartbeats 8000000 in
set_option maxRecDepth 100000 in
theorem impl_cache_ask.miss (k : Nat) (g base : Nat) (rk rc : Int) (ri : List S120) (key : ByteArray) (r1 r2 : Int) (r3 : List S120) (r4 : ByteArray) (s1 s2 : Int) (s3 : List S120) (s4 : List ByteArray) (s5 : Bool) (w0 w : World)
    (hg : RowAt w g base rk rc ri) (HB : Below base w0 w) (hbase : base ≤ g) (h : impl_RowGet.f k rk rc ri key = some (r1, r2, r3, r4, false)) (h2 : impl_RowPut.f k rk rc ri key (⟨#[]⟩ : ByteArray) = some (s1, s2, s3, s4, s5)) :
    Calls Try.prog 137 #[.pointer (some ⟨g, 0, none⟩), .string key] w fun e w' => e = .returned (.tuple #[.bool false, .int .i64 s4.length]) ∧ RowAt w' g base s1 s2 s3 ∧ Below base w0 w' ∧ KeepBut w w' g none := by
  obtain ⟨V, hb, hr⟩ := hg
  obtain ⟨A, c, rfl, hlc, hC⟩ := Kd.R_reads hr
  have H := Aside0.mk h
  have H2 := Aside0.mk h2
  have HBK := Aside0.mk hb
  have HC := Aside0.mk hC
  have HLC := Aside0.mk hlc
  have HB0 := Aside0.mk HB
  obtain ⟨p0, p1, p2, p3, q0, q1, q2⟩ := cells4 hb rfl
  clear h h2 hb hC hlc HB hr
  have HBS : Aside0 (base ≤ w.heap.size) := ⟨Nat.le_of_lt (Nat.lt_of_le_of_lt hbase (blk_lt HBK.out))⟩
  go_enter Try.func137, Try.ntmps137
  go_wp2_with (first | (go_at_call 22; (with_reducible refine (impl_RowGet.calls k rk rc A c ri key r1 r2 r3 r4 false _ HC.out HLC.out H.out).mono ?_); rintro e w1 ⟨v, rfl, ho, hb⟩; obtain ⟨A1, c1, rfl⟩ := Kd.R_slice ho; have B1 := Aside0.mk (blk_below HBK.out hb); have HO1 := Aside0.mk (Kd.R_lower ho HBS.out); have HB1 := Aside0.mk (below_base HB0.out HBS.out hb); have hbb1 := Aside0.mk hb; have HK1 := Aside0.mk (KeepBut.of_below hb g none); clear ho hb p0 p1 p2 p3 q0 q1 q2; obtain ⟨p0, p1, p2, p3, q0, q1, q2⟩ := cells4 B1.out rfl) | ((with_reducible refine gate_dst (N := 60) rfl ?_); refine Kd.R_lit Kd.string _ 9 ?hg (N := 60) ?hd (xs := ([] : List ByteArray)) (inner := []) (ok := fun _ => True) (okp := fun _ => True) ?hr ?hp (fun _ hk => hk) trivial (Below.refl _ _) (Nat.le_refl _) (by simp) ?_; (case hd => rfl); (case hg => rfl); (case hr => first | (go_simp; done) | (go_simp; rfl)); (case hp => exact (Reps.none _ _)); intro vg w2 hog hb hgx hnew; clear hgx hnew; obtain ⟨Ag, cg, rfl⟩ := Kd.R_slice hog; have B2 := Aside0.mk (blk_below (blk_alloc B1.out _) hb); have T2 := Aside0.mk (blk_below (blk_new w1 _) hb); have HO2 := Aside0.mk (Kd.R_below (Kd.R_alloc HO1.out _) hb); have HB2 := Aside0.mk (below_base (HB1.out.alloc (Nat.le_trans HBS.out HK1.out.1) _) (Nat.le_trans (Nat.le_trans HBS.out HK1.out.1) (by simp)) hb); have hbb2 := Aside0.mk hb; have HK2 := Aside0.mk (KeepBut.trans HK1.out (KeepBut.of_below (below_step (below_alloc (Below.refl _ _) _) hb) g none) (.inl rfl)); have NE := Aside0.mk (show w1.heap.size ≠ g from Nat.ne_of_gt (blk_lt B1.out)); clear hb hog p0 p1 p2 p3 q0 q1 q2; obtain ⟨p0, p1, p2, p3, q0, q1, q2⟩ := cells4 B2.out rfl; obtain ⟨⟨p4, p5, p6⟩, q4, q5, q6⟩ := cells3 T2.out; have HC2 := Aside0.mk (Kd.C_below (Kd.C_alloc (Kd.C_below HC.out hbb1.out) (.cells #[.int .i64 r1, .int .i64 r2, .slice A1 r3.length c1] 34)) hbb2.out)) | (go_at_call 21; (with_reducible refine (impl_RowPut.calls k rk rc A c ri key (⟨#[]⟩ : ByteArray) s1 s2 s3 s4 s5 _ HC2.out HLC.out H2.out).mono ?_); rintro e w3 ⟨v, vg2, rfl, ho, hog2, hb⟩; obtain ⟨A3, c3, rfl⟩ := Kd.R_slice ho; obtain ⟨Ag3, cg3, rfl⟩ := Kd.R_slice hog2; have B3 := Aside0.mk (blk_below B2.out hb); have T3 := Aside0.mk (blk_below T2.out hb); have HO3 := Aside0.mk (Kd.R_lower ho (Nat.le_trans HBS.out HK2.out.1)); have HB3 := Aside0.mk (below_base HB2.out (Nat.le_trans HBS.out HK2.out.1) hb); have HK3 := Aside0.mk (KeepBut.trans HK2.out (KeepBut.of_below hb g none) (.inl rfl)); clear ho hog2 hb p0 p1 p2 p3 q0 q1 q2 p4 p5 p6 q4 q5 q6; obtain ⟨p0, p1, p2, p3, q0, q1, q2⟩ := cells4 B3.out rfl; obtain ⟨⟨p4, p5, p6⟩, q4, q5, q6⟩ := cells3 T3.out; have B4 := Aside0.mk (show (((w3.setCell ⟨w1.heap.size, 0, none⟩ (.int .i64 s1)).setCell ⟨w1.heap.size, 1, none⟩ (.int .i64 s2)).setCell ⟨w1.heap.size, 2, none⟩ (.slice A3 s3.length c3)).heap[g]? = some (.cells #[.int .i64 rk, .int .i64 rc, .slice A ri.length c, .int .i64 0, .int .i64 0, .slice none 0 0, .slice none 0 0, .slice none 0 0] 169 (0, 0)) from blk_far (blk_far (blk_far B3.out NE.out.symm _) NE.out.symm _) NE.out.symm _); obtain ⟨p7, p8, p9, p10, q7, q8, q9⟩ := cells4 B4.out rfl))
  go_ret2
  exact ⟨rfl, ⟨_, blk_put (blk_put (blk_put (blk_far (blk_far (blk_far B3.out NE.out.symm _) NE.out.symm _) NE.out.symm _) 0 _ rfl) 1 _ rfl) 2 _ rfl, R_put3g (R_put3g HO3.out T3.out (by decide) _ _ _) (blk_far (blk_far (blk_far B3.out NE.out.symm _) NE.out.symm _) NE.out.symm _) (by decide) _ _ _⟩, (((((HB3.out.setCell (Nat.le_trans HBS.out HK1.out.1) _).setCell (Nat.le_trans HBS.out HK1.out.1) _).setCell (Nat.le_trans HBS.out HK1.out.1) _).setCell (by exact hbase) _).setCell (by exact hbase) _).setCell (by exact hbase) _, (((keep_far (keep_far (keep_far HK3.out HK1.out.1 _) HK1.out.1 _) HK1.out.1 _).set_ 0 _).set_ 1 _).set_ 2 _⟩
theorem impl_cache_ask.row (k : Nat) (g base : Nat) (rk rc : Int) (ri : List S120) (key : ByteArray) (a1 a2 : Int) (a3 : List S120) (a4 : Bool) (a5 : Int) (w0 w : World)
    (hg : RowAt w g base rk rc ri) (HB : Below base w0 w) (hbase : base ≤ g) (h : askRow k rk rc ri key = some (a1, a2, a3, a4, a5)) :
    Calls Try.prog 137 #[.pointer (some ⟨g, 0, none⟩), .string key] w fun e w' => e = .returned (.tuple #[.bool a4, .int .i64 a5]) ∧ RowAt w' g base a1 a2 a3 ∧ Below base w0 w' ∧ KeepBut w w' g none := by
  obtain ⟨⟨r1, r2, r3, r4, b⟩, h1, h⟩ := Option.bind_eq_some_iff.mp h
  cases b with
  | true =>
    rw [if_pos rfl] at h
    simp only [Option.some.injEq, Prod.mk.injEq] at h
    obtain ⟨rfl, rfl, rfl, rfl, rfl⟩ := h
    exact impl_cache_ask.hit k g base rk rc ri key _ _ _ _ w0 w hg HB hbase h1
  | false =>
    rw [if_neg (by simp)] at h
    obtain ⟨⟨s1, s2, s3, s4, s5⟩, h2, h⟩ := Option.bind_eq_some_iff.mp h
    simp only [Option.some.injEq, Prod.mk.injEq] at h
    obtain ⟨rfl, rfl, rfl, rfl, rfl⟩ := h
    exact impl_cache_ask.miss k g base rk rc ri key _ _ _ _ _ _ _ _ _ w0 w hg HB hbase h1 h2
theorem RowAt.grown {W W1 : World} {g base : Nat} {rk rc : Int} {ri : List S120} {row : Option Nat} {e : Nat} (h : RowAt W g base rk rc ri) (hg : W.grownBy W1 row) (hrow : ∀ k, row = some k → ∃ cells, W.heap[k]? = some (.cells cells e (0, 0))) (h1 : e ≠ 169) (h2 : ∀ q, q ∈ 120 :: k120.E → q ≠ e) : RowAt W1 g base rk rc ri := by
  obtain ⟨V, hb, hr⟩ := h
  refine ⟨V, blk_grown hb hg (fun he => ?_), R_grownT hr hg hrow h2⟩
  obtain ⟨cs, hc⟩ := hrow g he.symm
  rw [hb] at hc
  injection hc with hc
  injection hc with _ hc
  exact h1 hc.symm
theorem R_keepT {α : Type} {d : Kd α} {e base : Nat} {w w1 : World} {ok : Nat → Prop} {V : Value} {xs : List α} {g t : Nat} {cs : Array Value} (h : d.R e w base ok V xs) (hk : KeepBut w w1 g none) (hb : w.heap[g]? = some (.cells cs t (0, 0))) (ht : ∀ q, q ∈ e :: d.E → q ≠ t) : d.R e w1 base ok V xs := by
  refine Kd.R_mono (Kd.R_keep (Kd.R_bound h) hk (fun k hk' he => ?_)) (fun _ hk' => hk'.1)
  obtain ⟨_, _, hlt, q, hq, cells, hc⟩ := hk'
  subst he
  rw [hb] at hc
  injection hc with hc
  injection hc with _ hc
  exact ht q hq hc.symm
theorem R_keepRow {α : Type} {d : Kd α} {e base b2 : Nat} {w w1 : World} {ok : Nat → Prop} {V : Value} {xs : List α} {g : Nat} {rk rc : Int} {ri : List S120} (h : d.R e w base ok V xs) (hk : KeepBut w w1 g none) (hb : RowAt w g b2 rk rc ri) (ht : ∀ q, q ∈ e :: d.E → q ≠ 169) : d.R e w1 base ok V xs := by
  obtain ⟨V, hb, _⟩ := hb
  exact R_keepT h hk hb ht
theorem RowAt.alloc {W : World} {g base : Nat} {rk rc : Int} {ri : List S120} (h : RowAt W g base rk rc ri) (o : Obj) : RowAt (W.alloc o) g base rk rc ri := h.below ((Below.refl _ _).alloc (Nat.le_refl _) o)
theorem RowAt.lower {W : World} {g b b1 : Nat} {rk rc : Int} {ri : List S120} (h : RowAt W g b1 rk rc ri) (hb : b ≤ b1) : RowAt W g b rk rc ri := by
  obtain ⟨V, h1, h2⟩ := h
  exact ⟨V, h1, Kd.R_lower h2 hb⟩

end Go.Proofs.Ytkaahabgbngodaa.Core

namespace Go.Proofs.Ytkaahabgbngodaa.Core
open Go.RowKit Go.Proofs.YtkaahabgbngodaaW.PrintWords Go.Proofs.YtkaahabgbngodaaW.PrintLast Go.Proofs.YtkaahabgbngodaaW.PrintMore
attribute [local go_sem] max2_int min2_int max_two min_two max_three min_three max_four min_four   -- for this text's walks alone
set_option linter.unusedVariables false
set_option linter.unusedSimpArgs false

/-! ### impl_cacheOf: function 136 -/
set_option maxHeartbeats 8000000 in
set_option maxRecDepth 100000 in
theorem impl_cacheOf.row (k : Nat) (k1 cp mo : Int) (rk rc : Int) (ri : List S120) (ok : Bool) (w : World) (hk : k1 ≠ 4) (h : impl_RowNew.f k k1 cp = some (rk, rc, ri, ok)) :
    Calls Try.prog 136 #[.agg #[.int .i64 k1, .int .i64 cp, .int .i64 mo]] w fun e w' => ∃ g, e = .returned (.pointer (some ⟨g, 0, none⟩)) ∧ w.heap.size ≤ g ∧ RowAt w' g w.heap.size rk rc ri ∧ Below w.heap.size w w' := by
  have H := Aside0.mk h
  have hk' : (k1 == 4) = false := by simpa using hk
  clear h
  go_enter Try.func136, Try.ntmps136
  go_wp2_with (first | (go_at_call 20; (with_reducible refine (impl_RowNew.calls k k1 cp rk rc ri ok _ H.out).mono ?_); rintro e w1 ⟨v, rfl, ho, hb⟩; obtain ⟨A1, c1, rfl⟩ := Kd.R_slice ho; have B1 := Aside0.mk (show w1.heap[w.heap.size + 1]? = some (.cells #[.int .i64 0, .int .i64 0, .slice none 0 0, .int .i64 0, .int .i64 0, .slice none 0 0, .slice none 0 0, .slice none 0 0] 169 (0, 0)) by have z := blk_below (blk_new (w.alloc _) _) hb; simpa using z); have HO1 := Aside0.mk (Kd.R_lower ho (show w.heap.size ≤ _ by simp; omega)); have HB1 := Aside0.mk (below_step ((Below.refl w.heap.size w).alloc (Nat.le_refl _) _ |>.alloc (by simp) _) hb); clear ho hb; obtain ⟨p0, p1, p2, p3, q0, q1, q2⟩ := cells4 B1.out rfl))
  go_ret
  exact ⟨_, rfl, by omega, ⟨_, blk_put (blk_put (blk_put B1.out 0 _ rfl) 1 _ rfl) 2 _ rfl, R_put3g HO1.out B1.out (by decide) _ _ _⟩, below_put3 HB1.out (by omega) _ _ _⟩

end Go.Proofs.Ytkaahabgbngodaa.Core

namespace Go.Proofs.Ytkaahabgbngodaa.Core
open Go.RowKit Go.Proofs.YtkaahabgbngodaaW.PrintWords Go.Proofs.YtkaahabgbngodaaW.PrintLast Go.Proofs.YtkaahabgbngodaaW.PrintMore
attribute [local go_sem] max2_int min2_int max_two min_two max_three min_three max_four min_four   -- for this text's walks alone
set_option linter.unusedVariables false
set_option linter.unusedSimpArgs false

/-! ### impl_asked: function 75 -/
def askGo (k : Nat) (l : List ByteArray) : Nat → Int → Int → Int → List S120 → List Bool → Int → Option (Int × Int × List S120 × List Bool × Int)
  | 0, _, _, _, _, _, _ => none
  | n + 1, x, rk, rc, ri, hs, gn => if x < (l.length : Int) then (if 0 ≤ x then (askRow k rk rc ri (rdOf ByteArray.empty l x)).bind fun a => (if hs.length < 140737488355328 then askGo k l n (wrap64 (x + 1)) a.1 a.2.1 a.2.2.1 (hs ++ [a.2.2.2.1]) (wrap64 (gn + a.2.2.2.2)) else none) else none) else some (rk, rc, ri, hs, gn)
set_option maxHeartbeats 8000000 in
set_option maxRecDepth 100000 in
theorem impl_asked.row (k : Nat) (k1 cp mo : Int) (A : Option Addr) (c : Nat) (l : List ByteArray) (rk rc : Int) (ri : List S120) (ok : Bool) (r1 r2 : Int) (r3 : List S120) (r4 : List Bool) (r5 : Int) (w : World) (hr : Kd.C Kd.string w A l.length l) (hc : l.length ≤ c) (hk : k1 ≠ 4) (h : impl_RowNew.f k k1 cp = some (rk, rc, ri, ok))
    (h2 : askGo k l k 0 rk rc ri [] 0 = some (r1, r2, r3, r4, r5)) :
    Calls Try.prog 75 #[.agg #[.int .i64 k1, .int .i64 cp, .int .i64 mo], .slice A l.length c] w fun e w' => ∃ g v, e = .returned (.tuple #[.pointer (some ⟨g, 0, none⟩), v, .int .i64 r5]) ∧ w.heap.size ≤ g ∧ RowAt w' g w.heap.size r1 r2 r3 ∧ Kd.R Kd.bool 4 w' w.heap.size (fun _ => True) v r4 ∧ Below w.heap.size w w' := by
  have H := Aside0.mk h
  have HR := Aside0.mk hr
  have HNE := Aside0.mk hk
  have H2 := Aside0.mk h2
  clear h hr hk h2
  go_enter Try.func75, Try.ntmps75
  go_wp2_with (first | (go_at_call 136; (with_reducible refine (impl_cacheOf.row k k1 cp mo rk rc ri ok _ HNE.out H.out).mono ?_); rintro e w1 ⟨g, rfl, hgg, hra, hb⟩; have hgw : w.heap.size ≤ g := Nat.le_trans (by simp) hgg; have HGW := Aside0.mk hgw; have HB0 := Aside0.mk (below_step ((Below.refl w.heap.size w).alloc (Nat.le_refl _) _) hb); have RA0 := Aside0.mk (RowAt.lower hra (show w.heap.size ≤ _ by simp)); clear hgg hra hb hgw) | ((with_reducible refine gate_dst (N := 16) rfl ?_); refine Kd.R_lit Kd.bool _ 4 ?hg (N := 16) ?hd (xs := ([] : List Bool)) (inner := []) (ok := fun _ => True) (okp := fun _ => True) ?hr ?hp (fun _ hk => hk) trivial (Below.refl _ _) (Nat.le_refl _) (by simp) ?_; (case hd => rfl); (case hg => rfl); (case hr => first | (go_simp; done) | (go_simp; rfl)); (case hp => exact (Reps.none _ _)); intro vg w2 hog hb hgx hnew; clear hgx hnew; have RA := Aside0.mk (RA0.out.below hb); have HB := Aside0.mk (below_base HB0.out (below_size HB0.out) hb); have HV := Aside0.mk (Kd.R_lower hog (below_size HB0.out)); clear hb hog RA0 HB0))
  obtain ⟨n, hn⟩ : ∃ n, n = k := ⟨_, rfl⟩
  replace H2 := Aside0.mk (show askGo k l n 0 rk rc ri [] 0 = some (r1, r2, r3, r4, r5) by rw [hn]; exact H2.out)
  clear hn
  go_loopg [8, 9, 19] n (fun kq v8 v9 v19 w' => ∃ (x gn qk qc : Int) (qi : List S120) (hs : List Bool), v9 = .int .i64 gn ∧ v19 = .int .i64 x ∧ Aside0 (askGo k l kq x qk qc qi hs gn = some (r1, r2, r3, r4, r5)) ∧ Aside0 (RowAt w' g w.heap.size qk qc qi) ∧ Aside0 (Kd.R Kd.bool 4 w' w.heap.size (fun _ => True) v8 hs) ∧ Aside0 (Below w.heap.size w w'))
  case atStart => exact ⟨0, 0, rk, rc, ri, [], rfl, rfl, H2, RA, HV, HB⟩
  case round =>
    clear H2 RA HV HB
    obtain ⟨x, gn, qk, qc, qi, hs, rfl, rfl, HA, RA, HV, HB⟩ := hrel
    cases gk with
    | zero => exact absurd HA.out (by simp [askGo])
    | succ n1 =>
      have H := HA.out
      clear HA
      simp only [askGo] at H
      by_cases c1 : x < (l.length : Int)
      · rw [if_pos c1] at H
        have c1b : decide (x < (l.length : Int)) = true := decide_eq_true c1
        by_cases c2 : 0 ≤ x
        · rw [if_pos c2] at H
          obtain ⟨⟨b1, b2, b3, b4, b5⟩, HA1, H⟩ := Option.bind_eq_some_iff.mp H
          have HA1 := Aside0.mk HA1
          by_cases c3 : hs.length < 140737488355328
          · rw [if_pos c3] at H
            have H' := Aside0.mk H
            have LM := Aside0.mk c3
            clear H c3
            obtain ⟨ad, e, hx0⟩ := Kd.at_string HR.out x c2 c1
            cases e
            replace hx0 := (HB.out.cell (World.block_lt_of_cell? w _ hx0)).trans hx0
            replace c1 := eq_true c1
            replace c2 := eq_true c2
            go_wp2_with (first | (go_at_call 137; (with_reducible refine (impl_cache_ask.row k g w.heap.size qk qc qi (rdOf ByteArray.empty l x) b1 b2 b3 b4 b5 w _ RA.out HB.out HGW.out HA1.out).mono ?_); rintro e w3 ⟨rfl, hra, hb, hkk⟩; have RA1 := Aside0.mk hra; have HB1 := Aside0.mk hb; have HV1 := Aside0.mk (R_keepRow HV.out hkk RA.out (by decide)); clear hra hb hkk RA HB HV) | ((with_reducible refine gate_builtin (b := .append) (xs := #[.tmp 29, .tmp 31]) rfl ?_); at_builtin; refine Kd.R_append Kd.bool (w0 := w) w.heap.size rfl (.tmp 29) (.tmp 31) 59 4 (.bool false) 1 rfl Try.underlying59 info4 rfl (by decide) (by omega) u8 hs b4 [.bool b4] (fun _ => True) (fun _ => False) rfl rfl ?aP (fun _ hk => hk.elim) ?aF ?aO ?aB ?aS ?aL ?_; (case aP => exact rfl); (case aB => first | exact HB1.out | exact HB1.out.alloc (below_size HB1.out) _); (case aF => exact (fun _ _ => trivial)); (case aO => first | exact HV1.out | exact Kd.R_alloc HV1.out _); (case aS => first | exact below_size HB1.out | exact Nat.le_trans (below_size HB1.out) (by simp)); (case aL => have := LM.out; omega); intro v4 w4 ho hb hg hat; have RA2 : Aside0 (RowAt w4 g w.heap.size b1 b2 b3) := ⟨by first | exact RowAt.grown RA1.out hg (Kd.R_typed HV1.out) (by decide) (by decide) | exact RowAt.grown (RA1.out.alloc _) hg (Kd.R_typed (Kd.R_alloc HV1.out _)) (by decide) (by decide)⟩; have HB2 := Aside0.mk hb; have HV2 := Aside0.mk ho; clear ho hb hg hat RA1 HB1 HV1))
            go_roundg n1
            case measure => omega
            case rel => exact ⟨_, _, _, _, _, _, rfl, rfl, H', RA2, HV2, HB2⟩
          · rw [if_neg c3] at H
            exact absurd H (by simp)
        · rw [if_neg c2] at H
          exact absurd H (by simp)
      · rw [if_neg c1] at H
        simp only [Option.some.injEq, Prod.mk.injEq] at H
        obtain ⟨rfl, rfl, rfl, rfl, rfl⟩ := H
        have c1b : decide (x < (l.length : Int)) = false := decide_eq_false c1
        clear c1
        go_wp2
        go_ret3
        exact ⟨g, _, rfl, HGW.out, RA.out, HV.out, HB.out⟩

end Go.Proofs.Ytkaahabgbngodaa.Core

namespace Go.Proofs.Ytkaahabgbngodaa.Core
open Go.RowKit Go.Proofs.YtkaahabgbngodaaW.PrintWords Go.Proofs.YtkaahabgbngodaaW.PrintLast Go.Proofs.YtkaahabgbngodaaW.PrintMore
attribute [local go_sem] max2_int min2_int max_two min_two max_three min_three max_four min_four   -- for this text's walks alone
set_option linter.unusedVariables false
set_option linter.unusedSimpArgs false

/-! ### impl_cache_keys: function 76 -/
set_option maxHeartbeats 8000000 in
set_option maxRecDepth 100000 in
theorem impl_cache_keys.row (k : Nat) (g base : Nat) (rk rc : Int) (ri : List S120) (r : List ByteArray) (w : World) (hg : RowAt w g base rk rc ri) (h : impl_RowKeys.f k rk rc ri = some r) :
    Calls Try.prog 76 #[.pointer (some ⟨g, 0, none⟩)] w fun e w' => ∃ v, e = .returned v ∧ Kd.R Kd.string 9 w' w.heap.size (fun _ => True) v r ∧ Below w.heap.size w w' := by
  obtain ⟨V, hb, hr⟩ := hg
  obtain ⟨A, c, rfl, hlc, hC⟩ := Kd.R_reads hr
  have H := Aside0.mk h
  have HC := Aside0.mk hC
  have HLC := Aside0.mk hlc
  obtain ⟨p0, p1, p2, p3, q0, q1, q2⟩ := cells4 hb rfl
  clear h hC hlc hr hb
  go_enter Try.func76, Try.ntmps76
  go_wp2_with (first | (go_at_call 23; (with_reducible refine (impl_RowKeys.calls k rk rc A c ri r _ HC.out HLC.out H.out).mono ?_); rintro e w1 ⟨v, rfl, ho, hb⟩; have HO := Aside0.mk ho; have HB := Aside0.mk hb; clear ho hb))
  go_ret
  exact ⟨_, rfl, HO.out, HB.out⟩

end Go.Proofs.Ytkaahabgbngodaa.Core

namespace Go.Proofs.Ytkaahabgbngodaa.Core
open Go.RowKit Go.Proofs.YtkaahabgbngodaaW.PrintWords Go.Proofs.YtkaahabgbngodaaW.PrintLast Go.Proofs.YtkaahabgbngodaaW.PrintMore
attribute [local go_sem] max2_int min2_int max_two min_two max_three min_three max_four min_four   -- for this text's walks alone
set_option linter.unusedVariables false
set_option linter.unusedSimpArgs false

/-! ### impl_Holds: function 17 -/
theorem askRow.mono : ∀ a0 a1 a2 a3 k, LeO (askRow k a0 a1 a2 a3) (askRow (k + 1) a0 a1 a2 a3) := by
  intro a0 a1 a2 a3 k
  unfold askRow
  exact LeO.bind (impl_RowGet.mono _ _ _ _ _) (fun _ => LeO.ite (LeO.refl _) (LeO.bind (impl_RowPut.mono _ _ _ _ _ _) (fun _ => LeO.refl _)))
theorem askGo.mono (k : Nat) (l : List ByteArray) : ∀ n a0 a1 a2 a3 a4 a5, LeO (askGo k l n a0 a1 a2 a3 a4 a5) (askGo (k + 1) l (n + 1) a0 a1 a2 a3 a4 a5)
  | 0, _, _, _, _, _, _ => LeO.none _
  | n + 1, a0, a1, a2, a3, a4, a5 => by
    rw [askGo, askGo]
    exact LeO.ite (LeO.ite (LeO.bind (askRow.mono _ _ _ _ _) (fun _ => LeO.ite (askGo.mono k l n _ _ _ _ _ _) (LeO.none _))) (LeO.none _)) (LeO.refl _)
/-- What the asking of a setup's row gives, where setup and asks are right. -/
def askSet (k : Nat) (a0_0 a0_1 a0_2 : Int) (l : List ByteArray) : Option (Option (Int × Int × List S120 × List Bool × Int)) :=
  (impl_SetupOk.f k a0_0 a0_1 a0_2).bind fun s => if s = true then (impl_AsksOk.f k l).bind fun b => if b = true then (impl_RowNew.f k a0_0 a0_1).bind fun n => (askGo k l k 0 n.1 n.2.1 n.2.2.1 [] 0).bind fun q => some (some q) else some none else some none
theorem askSet.mono : ∀ a0 a1 a2 a3 k, LeO (askSet k a0 a1 a2 a3) (askSet (k + 1) a0 a1 a2 a3) := by
  intro a0 a1 a2 a3 k
  unfold askSet
  exact LeO.bind (impl_SetupOk.mono _ _ _ _) (fun _ => LeO.ite (LeO.bind (impl_AsksOk.mono _ _) (fun _ => LeO.ite (LeO.bind (impl_RowNew.mono _ _ _) (fun _ => LeO.bind (askGo.mono _ _ _ _ _ _ _ _ _) (fun _ => LeO.refl _))) (LeO.refl _))) (LeO.refl _))
/-- The three ways. -/
theorem askSet.ways {k : Nat} {a0_0 a0_1 a0_2 : Int} {l : List ByteArray} {r : Option (Int × Int × List S120 × List Bool × Int)} (h : askSet k a0_0 a0_1 a0_2 l = some r) :
    (impl_SetupOk.f k a0_0 a0_1 a0_2 = some false ∧ r = none) ∨ (impl_SetupOk.f k a0_0 a0_1 a0_2 = some true ∧ impl_AsksOk.f k l = some false ∧ r = none) ∨
    (impl_SetupOk.f k a0_0 a0_1 a0_2 = some true ∧ impl_AsksOk.f k l = some true ∧ a0_0 ≠ 4 ∧ ∃ rk rc ri ok q, impl_RowNew.f k a0_0 a0_1 = some (rk, rc, ri, ok) ∧ askGo k l k 0 rk rc ri [] 0 = some q ∧ r = some q) := by
  obtain ⟨s, h1, h⟩ := Option.bind_eq_some_iff.mp h
  cases s with
  | false => rw [if_neg (by simp)] at h; exact .inl ⟨h1, (Option.some.inj h).symm⟩
  | true =>
    rw [if_pos rfl] at h
    obtain ⟨b, h2, h⟩ := Option.bind_eq_some_iff.mp h
    cases b with
    | false => rw [if_neg (by simp)] at h; exact .inr (.inl ⟨h1, h2, (Option.some.inj h).symm⟩)
    | true =>
      rw [if_pos rfl] at h
      obtain ⟨⟨rk, rc, ri, ok⟩, h3, h⟩ := Option.bind_eq_some_iff.mp h
      obtain ⟨q, h4, h⟩ := Option.bind_eq_some_iff.mp h
      refine .inr (.inr ⟨h1, h2, fun he => ?_, rk, rc, ri, ok, q, h3, h4, (Option.some.inj h).symm⟩)
      rw [impl_SetupOk.f, if_pos he] at h1
      exact absurd h1 (by simp)
def impl_Holds.f (k : Nat) (a0_0 a0_1 a0_2 : Int) (l1 : List ByteArray) : Option (List ByteArray) :=
  (askSet k a0_0 a0_1 a0_2 l1).bind fun o => match o with | none => some [] | some q => impl_RowKeys.f k q.1 q.2.1 q.2.2.1
theorem impl_Holds.mono : ∀ a0 a1 a2 a3 k, LeO (impl_Holds.f k a0 a1 a2 a3) (impl_Holds.f (k + 1) a0 a1 a2 a3) := by
  intro a0 a1 a2 a3 k
  unfold impl_Holds.f
  refine LeO.bind (askSet.mono _ _ _ _ _) (fun o => ?_)
  cases o with
  | none => exact LeO.refl _
  | some q => exact impl_RowKeys.mono _ _ _ _
set_option maxHeartbeats 8000000 in
set_option maxRecDepth 100000 in
theorem impl_Holds.calls (k : Nat) (a0_0 a0_1 a0_2 : Int) (A1 : Option Addr) (c1 : Nat) (l1 : List ByteArray) (r : List ByteArray) (w : World) (hr1 : Kd.C Kd.string w A1 l1.length l1) (hc1 : l1.length ≤ c1) (h : impl_Holds.f k a0_0 a0_1 a0_2 l1 = some r) :
    Calls Try.prog 17 #[.agg #[.int .i64 a0_0, .int .i64 a0_1, .int .i64 a0_2], .slice A1 l1.length c1] w fun e w' => ∃ v0_ : Value, e = .returned (v0_) ∧ Kd.R Kd.string 9 w' w.heap.size (fun _ => True) v0_ r ∧ Below w.heap.size w w' := by
  have HR := Aside0.mk hr1
  have HC := Aside0.mk hc1
  obtain ⟨o, h1, h2⟩ := Option.bind_eq_some_iff.mp h
  clear hr1 hc1 h
  rcases askSet.ways h1 with ⟨h3, rfl⟩ | ⟨h3, h4, rfl⟩ | ⟨h3, h4, hne, rk, rc, ri, ok, q, h5, h6, rfl⟩
  · have OK := Aside0.mk h3
    obtain rfl := Option.some.inj h2
    clear h1 h2 h3
    go_enter Try.func17, Try.ntmps17
    go_wp2_with (first | (go_at_call 33; (with_reducible refine (impl_SetupOk.calls k a0_0 a0_1 a0_2 false _ OK.out).mono ?_); rintro e w1 ⟨rfl, hb⟩; have HB1 := Aside0.mk (below_step ((Below.refl w.heap.size w).alloc (Nat.le_refl _) _) hb); have BB := Aside0.mk (show w1.heap[w.heap.size]? = some (.cells #[.int .i64 a0_0, .int .i64 a0_1, .int .i64 a0_2] 28 (0, 0)) from blk_below (blk_new w _) hb); have HRA := Aside0.mk (Kd.C_below (Kd.C_alloc HR.out _) hb); clear hb; obtain ⟨⟨p0, p1, p2⟩, q0, q1, q2⟩ := cells3 BB.out))
    go_ret
    exact ⟨_, rfl, Kd.R_nil _ _ _ _ _, HB1.out⟩
  · have OK := Aside0.mk h3
    have AOK := Aside0.mk h4
    obtain rfl := Option.some.inj h2
    clear h1 h2 h3 h4
    go_enter Try.func17, Try.ntmps17
    go_wp2_with (first | (go_at_call 33; (with_reducible refine (impl_SetupOk.calls k a0_0 a0_1 a0_2 true _ OK.out).mono ?_); rintro e w1 ⟨rfl, hb⟩; have HB1 := Aside0.mk (below_step ((Below.refl w.heap.size w).alloc (Nat.le_refl _) _) hb); have BB := Aside0.mk (show w1.heap[w.heap.size]? = some (.cells #[.int .i64 a0_0, .int .i64 a0_1, .int .i64 a0_2] 28 (0, 0)) from blk_below (blk_new w _) hb); have HRA := Aside0.mk (Kd.C_below (Kd.C_alloc HR.out _) hb); clear hb; obtain ⟨⟨p0, p1, p2⟩, q0, q1, q2⟩ := cells3 BB.out) | (go_at_call 37; (with_reducible refine (impl_AsksOk.calls k A1 c1 l1 false _ HRA.out HC.out AOK.out).mono ?_); rintro e w2 ⟨rfl, hb⟩; have HB2 := Aside0.mk (below_step HB1.out hb); have BB2 := Aside0.mk (blk_below BB.out hb); have HRB := Aside0.mk (Kd.C_below HRA.out hb); clear hb p0 p1 p2 q0 q1 q2; obtain ⟨⟨p0, p1, p2⟩, q0, q1, q2⟩ := cells3 BB2.out))
    go_ret
    exact ⟨_, rfl, Kd.R_nil _ _ _ _ _, HB2.out⟩
  · have OK := Aside0.mk h3
    have AOK := Aside0.mk h4
    have NE4 := Aside0.mk hne
    have NW := Aside0.mk h5
    obtain ⟨y1, y2, y3, y4, y5⟩ := q
    have GO := Aside0.mk h6
    have KK := Aside0.mk h2
    clear h1 h2 h3 h4 hne h5 h6
    go_enter Try.func17, Try.ntmps17
    go_wp2_with (first | (go_at_call 33; (with_reducible refine (impl_SetupOk.calls k a0_0 a0_1 a0_2 true _ OK.out).mono ?_); rintro e w1 ⟨rfl, hb⟩; have HB1 := Aside0.mk (below_step ((Below.refl w.heap.size w).alloc (Nat.le_refl _) _) hb); have BB := Aside0.mk (show w1.heap[w.heap.size]? = some (.cells #[.int .i64 a0_0, .int .i64 a0_1, .int .i64 a0_2] 28 (0, 0)) from blk_below (blk_new w _) hb); have HRA := Aside0.mk (Kd.C_below (Kd.C_alloc HR.out _) hb); clear hb; obtain ⟨⟨p0, p1, p2⟩, q0, q1, q2⟩ := cells3 BB.out) | (go_at_call 37; (with_reducible refine (impl_AsksOk.calls k A1 c1 l1 true _ HRA.out HC.out AOK.out).mono ?_); rintro e w2 ⟨rfl, hb⟩; have HB2 := Aside0.mk (below_step HB1.out hb); have BB2 := Aside0.mk (blk_below BB.out hb); have HRB := Aside0.mk (Kd.C_below HRA.out hb); clear hb p0 p1 p2 q0 q1 q2; obtain ⟨⟨p0, p1, p2⟩, q0, q1, q2⟩ := cells3 BB2.out) | (go_at_call 75; (with_reducible refine (impl_asked.row k a0_0 a0_1 a0_2 A1 c1 l1 rk rc ri ok y1 y2 y3 y4 y5 _ HRB.out HC.out NE4.out NW.out GO.out).mono ?_); rintro e w3 ⟨g, v, rfl, hgg, hra, hv, hb⟩; have HB3 := Aside0.mk (below_step HB2.out hb); have HV := Aside0.mk (Kd.R_lower hv (below_size HB2.out)); have RA := Aside0.mk (RowAt.lower hra (below_size HB2.out)); clear hb hv hra hgg p0 p1 p2) | (go_at_call 76; (with_reducible refine (impl_cache_keys.row k g _ y1 y2 y3 r _ RA.out KK.out).mono ?_); rintro e w4 ⟨v4, rfl, ho, hb⟩; have HB4 := Aside0.mk (below_step HB3.out hb); have HO4 := Aside0.mk (Kd.R_lower ho (below_size HB3.out)); clear ho hb))
    go_ret
    exact ⟨_, rfl, HO4.out, HB4.out⟩

end Go.Proofs.Ytkaahabgbngodaa.Core

namespace Go.Proofs.Ytkaahabgbngodaa.Core
open Go.RowKit Go.Proofs.YtkaahabgbngodaaW.PrintWords Go.Proofs.YtkaahabgbngodaaW.PrintLast Go.Proofs.YtkaahabgbngodaaW.PrintMore
attribute [local go_sem] max2_int min2_int max_two min_two max_three min_three max_four min_four   -- for this text's walks alone
set_option linter.unusedVariables false
set_option linter.unusedSimpArgs false

/-! ### impl_hitsIn: function 83 -/
def impl_hitsIn.l0 : Nat → Int → List Bool → Int → Int → Option (Int)
  | 0, _, _, _, _ => none
  | k + 1, x3, x6, x7, x8 => if x8 < x7 then (if 0 ≤ x8 then (if x8 < (x6.length : Int) then (if rdOf false x6 x8 = true then (impl_hitsIn.l0 k (wrap64 (x3 + 1)) x6 x7 (wrap64 (x8 + 1))) else (impl_hitsIn.l0 k x3 x6 x7 (wrap64 (x8 + 1)))) else (none)) else (none)) else (some x3)
def impl_hitsIn.f (k : Nat) (l0 : List Bool) : Option (Int) := impl_hitsIn.l0 k 0 l0 (l0.length : Int) 0
theorem impl_hitsIn.mono_l : ∀ k, (∀ y0 y1 y2 y3, LeO (impl_hitsIn.l0 k y0 y1 y2 y3) (impl_hitsIn.l0 (k + 1) y0 y1 y2 y3))
  | 0 => fun _ _ _ _ r h => by simp [impl_hitsIn.l0] at h
  | k + 1 => by
    have ih0 := impl_hitsIn.mono_l k
    · intro y0 y1 y2 y3
      unfold impl_hitsIn.l0
      repeat' first
      | (with_reducible exact ih0 _ _ _ _)
      | (with_reducible exact LeO.refl _)
      | (with_reducible exact LeO.none _)
      | (with_reducible refine LeO.ite ?_ ?_)
      | (with_reducible refine LeO.bind ?_ (fun _ => ?_))
      | exact ih0 _ _ _ _
      | exact LeO.none _
      | refine LeO.ite ?_ ?_
      | refine LeO.bind ?_ (fun _ => ?_)
theorem impl_hitsIn.mono : ∀ a0 k, LeO (impl_hitsIn.f k a0) (impl_hitsIn.f (k + 1) a0) := by
  intro a0 k
  have ih0 := impl_hitsIn.mono_l k
  unfold impl_hitsIn.f
  repeat' first
      | (with_reducible exact ih0 _ _ _ _)
      | (with_reducible exact LeO.refl _)
      | (with_reducible exact LeO.none _)
      | (with_reducible refine LeO.ite ?_ ?_)
      | (with_reducible refine LeO.bind ?_ (fun _ => ?_))
      | exact ih0 _ _ _ _
      | exact LeO.none _
      | refine LeO.ite ?_ ?_
      | refine LeO.bind ?_ (fun _ => ?_)
set_option maxHeartbeats 8000000 in
set_option maxRecDepth 100000 in
theorem impl_hitsIn.calls (k : Nat) (A0 : Option Addr) (c0 : Nat) (l0 : List Bool) (r : Int) (w : World) (hr0 : Kd.C Kd.bool w A0 l0.length l0) (hc0 : l0.length ≤ c0) (h : impl_hitsIn.f k l0 = some r) :
    Calls Try.prog 83 #[.slice A0 l0.length c0] w fun e w' => e = .returned (.int .i64 r) ∧ Drawn0 w w' := by
  have HR0 := Aside0.mk hr0
  have HC0 := Aside0.mk hc0
  clear hr0 hc0
  have H : (impl_hitsIn.l0 k 0 l0 (l0.length : Int) 0) = some r := h
  clear h
  have H' := Aside0.mk H
  clear H
  go_enter Try.func83, Try.ntmps83
  go_wp2
  go_loopg [3, 8] k (fun kq v3 v8 w' => ∃ (x3_1 : Int) (x8_1 : Int), v3 = .int .i64 x3_1 ∧ v8 = .int .i64 x8_1 ∧ Aside0 (impl_hitsIn.l0 kq x3_1 l0 (l0.length : Int) x8_1 = some r) ∧ Aside0 (kq ≤ k) ∧ Drawn0 w w')
  case atStart => exact ⟨(0), (0), (by first | rfl | (simp; done) | (simp [*]; done)), (by first | rfl | (simp; done) | (simp [*]; done)), H', ⟨Nat.le_refl _⟩, by repeat (first | exact Drawn0.refl _ | apply Drawn0.step)⟩
  case round =>
    clear H'
    obtain ⟨x3_1, x8_1, rfl, rfl, HA, HK1, ⟨m1, rfl⟩⟩ := hrel
    cases gk with
    | zero => exact absurd HA.out (by simp [impl_hitsIn.l0])
    | succ k1 =>
      have H := HA.out
      clear HA
      simp only [impl_hitsIn.l0] at H
      by_cases c2 : x8_1 < (l0.length : Int)
      · rw [if_pos c2] at H
        have c2b0 : decide (x8_1 < (l0.length : Int)) = true := decide_eq_true c2
        clear c2
        by_cases c3 : 0 ≤ x8_1
        · rw [if_pos c3] at H
          have c3b0 : decide (0 ≤ x8_1) = true := decide_eq_true c3
          clear c3
          by_cases c4 : x8_1 < (l0.length : Int)
          · rw [if_pos c4] at H
            have c4b0 : decide (x8_1 < (l0.length : Int)) = true := decide_eq_true c4
            clear c4
            obtain ⟨bq5, hbq5⟩ : ∃ b_ : Bool, b_ = (rdOf false l0 x8_1) := ⟨_, rfl⟩
            replace H : (if bq5 = true then (impl_hitsIn.l0 k1 (wrap64 (x3_1 + 1)) l0 (l0.length : Int) (wrap64 (x8_1 + 1))) else (impl_hitsIn.l0 k1 x3_1 l0 (l0.length : Int) (wrap64 (x8_1 + 1)))) = some r := by rw [← hbq5] at H; exact H
            have Nbq5 := Aside0.mk hbq5
            clear hbq5
            by_cases c6 : bq5 = true
            · subst c6
              have H1 : (impl_hitsIn.l0 k1 (wrap64 (x3_1 + 1)) l0 (l0.length : Int) (wrap64 (x8_1 + 1))) = some r := by rw [if_pos rfl] at H; exact H
              clear H
              have H := H1
              clear H1
              have H' := Aside0.mk H
              clear H
              have p340 : 0 ≤ (x8_1 : Int) := of_decide_eq_true (by first | (with_reducible assumption) | assumption)
              have q340 : x8_1 < (l0.length : Int) := of_decide_eq_true (by first | (with_reducible assumption) | assumption)
              obtain ⟨ad340, e340, hx340_0⟩ := Kd.at_bool HR0.out x8_1 p340 q340
              (try rw [← Nbq5.out] at hx340_0)
              cases e340
              replace p340 := eq_true p340
              replace q340 := eq_true q340
              go_wp2
              go_roundg k1
              case measure => have := HK1.out; omega
              case rel => exact ⟨(wrap64 (x3_1 + 1)), (wrap64 (x8_1 + 1)), (by first | rfl | (simp; done) | (simp [*]; done)), (by first | rfl | (simp; done) | (simp [*]; done)), H', ⟨by have := HK1.out; omega⟩, by repeat (first | exact Drawn0.refl _ | apply Drawn0.step)⟩
            · replace c6 := Bool.eq_false_iff.mpr c6
              subst c6
              have H1 : (impl_hitsIn.l0 k1 x3_1 l0 (l0.length : Int) (wrap64 (x8_1 + 1))) = some r := by rw [if_neg (show ¬ (false = true) by decide)] at H; exact H
              clear H
              have H := H1
              clear H1
              have H' := Aside0.mk H
              clear H
              have p340 : 0 ≤ (x8_1 : Int) := of_decide_eq_true (by first | (with_reducible assumption) | assumption)
              have q340 : x8_1 < (l0.length : Int) := of_decide_eq_true (by first | (with_reducible assumption) | assumption)
              obtain ⟨ad340, e340, hx340_0⟩ := Kd.at_bool HR0.out x8_1 p340 q340
              (try rw [← Nbq5.out] at hx340_0)
              cases e340
              replace p340 := eq_true p340
              replace q340 := eq_true q340
              go_wp2
              go_roundg k1
              case measure => have := HK1.out; omega
              case rel => exact ⟨(x3_1), (wrap64 (x8_1 + 1)), (by first | rfl | (simp; done) | (simp [*]; done)), (by first | rfl | (simp; done) | (simp [*]; done)), H', ⟨by have := HK1.out; omega⟩, by repeat (first | exact Drawn0.refl _ | apply Drawn0.step)⟩
          · rw [if_neg c4] at H
            exact absurd H (by simp)
        · rw [if_neg c3] at H
          exact absurd H (by simp)
      · rw [if_neg c2] at H
        have c2b0 : decide (x8_1 < (l0.length : Int)) = false := decide_eq_false c2
        clear c2
        obtain rfl := Option.some.inj H
        go_wp2
        go_ret
        exact ⟨by first | rfl | (simp; done) | (simp [*]; done), by repeat (first | exact Drawn0.refl _ | apply Drawn0.step)⟩

end Go.Proofs.Ytkaahabgbngodaa.Core

namespace Go.Proofs.Ytkaahabgbngodaa.Core
open Go.RowKit Go.Proofs.YtkaahabgbngodaaW.PrintWords Go.Proofs.YtkaahabgbngodaaW.PrintLast Go.Proofs.YtkaahabgbngodaaW.PrintMore
attribute [local go_sem] max2_int min2_int max_two min_two max_three min_three max_four min_four   -- for this text's walks alone
set_option linter.unusedVariables false
set_option linter.unusedSimpArgs false

/-! ### impl_CountOf: function 25 -/
def impl_CountOf.f (k : Nat) (a0_0 a0_1 a0_2 : Int) (l1 : List ByteArray) : Option (Int × Int × Int × Int) :=
  (askSet k a0_0 a0_1 a0_2 l1).bind fun o => match o with | none => some (0, 0, 0, 0) | some q => (impl_hitsIn.f k q.2.2.2.1).bind fun n => some ((l1.length : Int), n, wrap64 ((l1.length : Int) - n), q.2.2.2.2)
theorem impl_CountOf.mono : ∀ a0 a1 a2 a3 k, LeO (impl_CountOf.f k a0 a1 a2 a3) (impl_CountOf.f (k + 1) a0 a1 a2 a3) := by
  intro a0 a1 a2 a3 k
  unfold impl_CountOf.f
  refine LeO.bind (askSet.mono _ _ _ _ _) (fun o => ?_)
  cases o with
  | none => exact LeO.refl _
  | some q => exact LeO.bind (impl_hitsIn.mono _ _) (fun _ => LeO.refl _)
set_option maxHeartbeats 8000000 in
set_option maxRecDepth 100000 in
theorem impl_CountOf.calls (k : Nat) (a0_0 a0_1 a0_2 : Int) (A1 : Option Addr) (c1 : Nat) (l1 : List ByteArray) (r1 r2 r3 r4 : Int) (w : World) (hr1 : Kd.C Kd.string w A1 l1.length l1) (hc1 : l1.length ≤ c1) (h : impl_CountOf.f k a0_0 a0_1 a0_2 l1 = some (r1, r2, r3, r4)) :
    Calls Try.prog 25 #[.agg #[.int .i64 a0_0, .int .i64 a0_1, .int .i64 a0_2], .slice A1 l1.length c1] w fun e w' => e = .returned (.agg #[.int .i64 r1, .int .i64 r2, .int .i64 r3, .int .i64 r4]) ∧ Below w.heap.size w w' := by
  have HR := Aside0.mk hr1
  have HC := Aside0.mk hc1
  obtain ⟨o, h1, h2⟩ := Option.bind_eq_some_iff.mp h
  clear hr1 hc1 h
  rcases askSet.ways h1 with ⟨h3, rfl⟩ | ⟨h3, h4, rfl⟩ | ⟨h3, h4, hne, rk, rc, ri, ok, q, h5, h6, rfl⟩
  · have OK := Aside0.mk h3
    simp only [Option.some.injEq, Prod.mk.injEq] at h2
    obtain ⟨rfl, rfl, rfl, rfl⟩ := h2
    clear h1 h3
    go_enter Try.func25, Try.ntmps25
    go_wp2_with (first | (go_at_call 33; (with_reducible refine (impl_SetupOk.calls k a0_0 a0_1 a0_2 false _ OK.out).mono ?_); rintro e w1 ⟨rfl, hb⟩; have HB1 := Aside0.mk (below_step ((Below.refl w.heap.size w).alloc (Nat.le_refl _) _ |>.alloc (by simp) _) hb); have BB := Aside0.mk (show w1.heap[w.heap.size]? = some (.cells #[.int .i64 a0_0, .int .i64 a0_1, .int .i64 a0_2] 28 (0, 0)) from blk_below (blk_alloc (blk_new w _) _) hb); have CC := Aside0.mk (show w1.heap[w.heap.size + 1]? = some (.cells #[.int .i64 0, .int .i64 0, .int .i64 0, .int .i64 0] 45 (0, 0)) by have z := blk_below (blk_new (w.alloc _) _) hb; simpa using z); have HRA := Aside0.mk (Kd.C_below (Kd.C_alloc (Kd.C_alloc HR.out _) _) hb); clear hb; obtain ⟨⟨p0, p1, p2⟩, q0, q1, q2⟩ := cells3 BB.out; obtain ⟨p3, p4, p5, p6, q3, q4, q5⟩ := cells4 CC.out rfl; have q6 := blk_frozen CC.out 3))
    refine bodyPost_ret (results_cell_row rfl _ _ (w.heap.size + 1) 45 #[.int .i64 0, .int .i64 0, .int .i64 0, .int .i64 0] (0, 0) _ rfl (blk_put (blk_put (blk_put (blk_put CC.out 0 _ rfl) 1 _ rfl) 2 _ rfl) 3 _ rfl) Try.underlying45 rfl (by kernel_rfl)) rfl ?_
    exact ⟨rfl, (((HB1.out.setCell (by simp) _).setCell (by simp) _).setCell (by simp) _).setCell (by simp) _⟩
  · have OK := Aside0.mk h3
    have AOK := Aside0.mk h4
    simp only [Option.some.injEq, Prod.mk.injEq] at h2
    obtain ⟨rfl, rfl, rfl, rfl⟩ := h2
    clear h1 h3 h4
    go_enter Try.func25, Try.ntmps25
    go_wp2_with (first | (go_at_call 33; (with_reducible refine (impl_SetupOk.calls k a0_0 a0_1 a0_2 true _ OK.out).mono ?_); rintro e w1 ⟨rfl, hb⟩; have HB1 := Aside0.mk (below_step ((Below.refl w.heap.size w).alloc (Nat.le_refl _) _ |>.alloc (by simp) _) hb); have BB := Aside0.mk (show w1.heap[w.heap.size]? = some (.cells #[.int .i64 a0_0, .int .i64 a0_1, .int .i64 a0_2] 28 (0, 0)) from blk_below (blk_alloc (blk_new w _) _) hb); have CC := Aside0.mk (show w1.heap[w.heap.size + 1]? = some (.cells #[.int .i64 0, .int .i64 0, .int .i64 0, .int .i64 0] 45 (0, 0)) by have z := blk_below (blk_new (w.alloc _) _) hb; simpa using z); have HRA := Aside0.mk (Kd.C_below (Kd.C_alloc (Kd.C_alloc HR.out _) _) hb); clear hb; obtain ⟨⟨p0, p1, p2⟩, q0, q1, q2⟩ := cells3 BB.out; obtain ⟨p3, p4, p5, p6, q3, q4, q5⟩ := cells4 CC.out rfl; have q6 := blk_frozen CC.out 3) | (go_at_call 37; (with_reducible refine (impl_AsksOk.calls k A1 c1 l1 false _ HRA.out HC.out AOK.out).mono ?_); rintro e w2 ⟨rfl, hb⟩; have HB2 := Aside0.mk (below_step HB1.out hb); have BB2 := Aside0.mk (blk_below BB.out hb); have CC2 := Aside0.mk (blk_below CC.out hb); have HRB := Aside0.mk (Kd.C_below HRA.out hb); clear hb p0 p1 p2 q0 q1 q2 p3 p4 p5 p6 q3 q4 q5 q6; obtain ⟨⟨p0, p1, p2⟩, q0, q1, q2⟩ := cells3 BB2.out; obtain ⟨p3, p4, p5, p6, q3, q4, q5⟩ := cells4 CC2.out rfl; have q6 := blk_frozen CC2.out 3))
    refine bodyPost_ret (results_cell_row rfl _ _ (w.heap.size + 1) 45 #[.int .i64 0, .int .i64 0, .int .i64 0, .int .i64 0] (0, 0) _ rfl (blk_put (blk_put (blk_put (blk_put CC2.out 0 _ rfl) 1 _ rfl) 2 _ rfl) 3 _ rfl) Try.underlying45 rfl (by kernel_rfl)) rfl ?_
    exact ⟨rfl, (((HB2.out.setCell (by simp) _).setCell (by simp) _).setCell (by simp) _).setCell (by simp) _⟩
  · have OK := Aside0.mk h3
    have AOK := Aside0.mk h4
    have NE4 := Aside0.mk hne
    have NW := Aside0.mk h5
    obtain ⟨y1, y2, y3, y4, y5⟩ := q
    have GO := Aside0.mk h6
    obtain ⟨n, h7, h2⟩ := Option.bind_eq_some_iff.mp h2
    simp only [Option.some.injEq, Prod.mk.injEq] at h2
    obtain ⟨rfl, rfl, rfl, rfl⟩ := h2
    have KK := Aside0.mk h7
    clear h7
    clear h1 h3 h4 hne h5 h6
    go_enter Try.func25, Try.ntmps25
    go_wp2_with (first | (go_at_call 33; (with_reducible refine (impl_SetupOk.calls k a0_0 a0_1 a0_2 true _ OK.out).mono ?_); rintro e w1 ⟨rfl, hb⟩; have HB1 := Aside0.mk (below_step ((Below.refl w.heap.size w).alloc (Nat.le_refl _) _ |>.alloc (by simp) _) hb); have BB := Aside0.mk (show w1.heap[w.heap.size]? = some (.cells #[.int .i64 a0_0, .int .i64 a0_1, .int .i64 a0_2] 28 (0, 0)) from blk_below (blk_alloc (blk_new w _) _) hb); have CC := Aside0.mk (show w1.heap[w.heap.size + 1]? = some (.cells #[.int .i64 0, .int .i64 0, .int .i64 0, .int .i64 0] 45 (0, 0)) by have z := blk_below (blk_new (w.alloc _) _) hb; simpa using z); have HRA := Aside0.mk (Kd.C_below (Kd.C_alloc (Kd.C_alloc HR.out _) _) hb); clear hb; obtain ⟨⟨p0, p1, p2⟩, q0, q1, q2⟩ := cells3 BB.out; obtain ⟨p3, p4, p5, p6, q3, q4, q5⟩ := cells4 CC.out rfl; have q6 := blk_frozen CC.out 3) | (go_at_call 37; (with_reducible refine (impl_AsksOk.calls k A1 c1 l1 true _ HRA.out HC.out AOK.out).mono ?_); rintro e w2 ⟨rfl, hb⟩; have HB2 := Aside0.mk (below_step HB1.out hb); have BB2 := Aside0.mk (blk_below BB.out hb); have CC2 := Aside0.mk (blk_below CC.out hb); have HRB := Aside0.mk (Kd.C_below HRA.out hb); clear hb p0 p1 p2 q0 q1 q2 p3 p4 p5 p6 q3 q4 q5 q6; obtain ⟨⟨p0, p1, p2⟩, q0, q1, q2⟩ := cells3 BB2.out; obtain ⟨p3, p4, p5, p6, q3, q4, q5⟩ := cells4 CC2.out rfl; have q6 := blk_frozen CC2.out 3) | (go_at_call 75; (with_reducible refine (impl_asked.row k a0_0 a0_1 a0_2 A1 c1 l1 rk rc ri ok y1 y2 y3 y4 y5 _ HRB.out HC.out NE4.out NW.out GO.out).mono ?_); rintro e w3 ⟨g, v, rfl, hgg, hra, hv, hb⟩; have HB3 := Aside0.mk (below_step HB2.out hb); obtain ⟨Av, cv, rfl, hcv, hCv⟩ := Kd.R_reads hv; have HCV := Aside0.mk hcv; have HV := Aside0.mk hCv; have CC3 := Aside0.mk (blk_below CC2.out hb); clear hb hv hra hgg hcv hCv p0 p1 p2 p3 p4 p5 p6 q3 q4 q5 q6; obtain ⟨p3, p4, p5, p6, q3, q4, q5⟩ := cells4 CC3.out rfl; have q6 := blk_frozen CC3.out 3) | (go_at_call 83; (with_reducible refine (impl_hitsIn.calls k Av cv y4 n _ HV.out HCV.out KK.out).mono ?_); rintro e w4 ⟨rfl, hd⟩; obtain ⟨nd, rfl⟩ := hd))
    refine bodyPost_ret (results_cell_row rfl _ _ (w.heap.size + 1) 45 #[.int .i64 (l1.length:Int), .int .i64 n, .int .i64 (wrap64 ((l1.length:Int)-n)), .int .i64 y5] (0, 0) _ rfl (blk_put (blk_put (blk_put (blk_put (blk_drewN CC3.out nd) 0 _ rfl) 1 _ rfl) 2 _ rfl) 3 _ rfl) Try.underlying45 rfl (by kernel_rfl)) rfl ?_
    exact ⟨rfl, ((((pw_below_drewN HB3.out nd).setCell (by simp) _).setCell (by simp) _).setCell (by simp) _).setCell (by simp) _⟩

end Go.Proofs.Ytkaahabgbngodaa.Core

namespace Go.Proofs.Ytkaahabgbngodaa.Core
open Go.RowKit Go.Proofs.YtkaahabgbngodaaW.PrintWords Go.Proofs.YtkaahabgbngodaaW.PrintLast Go.Proofs.YtkaahabgbngodaaW.PrintMore
attribute [local go_sem] max2_int min2_int max_two min_two max_three min_three max_four min_four   -- for this text's walks alone
set_option linter.unusedVariables false
set_option linter.unusedSimpArgs false

/-! ### impl_DepthsOf: function 38 -/
mutual
def impl_DepthsOf.l0 : Nat → List ByteArray → List Int → List ByteArray → Int → Int → Option (List Int)
  | 0, _, _, _, _, _ => none
  | k + 1, x0, x3, x9, x10, x11 => if x11 < x10 then (if 0 ≤ x11 then (if x11 < (x9.length : Int) then (impl_DepthsOf.l1 k x0 x3 x11 (rdOf ByteArray.empty x9 x11) (-1) (wrap64 (x11 - 1)) x9 x10 x11) else (none)) else (none)) else (some x3)
def impl_DepthsOf.l1 : Nat → List ByteArray → List Int → Int → ByteArray → Int → Int → List ByteArray → Int → Int → Option (List Int)
  | 0, _, _, _, _, _, _, _, _, _ => none
  | k + 1, x0, x3, x4, x5, x6, x7, x9, x10, x11 => if x7 ≥ 0 then (if 0 ≤ x7 then (if x7 < (x0.length : Int) then (if (rdOf ByteArray.empty x0 x7).toList = x5.toList then (if 0 ≤ (wrap64 (x7 + 1)) then (if (wrap64 (x7 + 1)) ≤ x4 then (if x4 ≤ (x0.length : Int) then ((impl_Distinct.f k ((x0.take (x4 : Int).toNat).drop ((wrap64 (x7 + 1)) : Int).toNat)).bind fun t672 => (if x3.length < 17592186044416 then (impl_DepthsOf.l0 k x0 (x3 ++ [(t672.length : Int)]) x9 x10 (wrap64 (x11 + 1))) else (none))) else (none)) else (none)) else (none)) else (impl_DepthsOf.l1 k x0 x3 x4 x5 x6 (wrap64 (x7 - 1)) x9 x10 x11)) else (none)) else (none)) else (if x3.length < 17592186044416 then (impl_DepthsOf.l0 k x0 (x3 ++ [x6]) x9 x10 (wrap64 (x11 + 1))) else (none))
end
def impl_DepthsOf.f (k : Nat) (l0 : List ByteArray) : Option (List Int) := impl_DepthsOf.l0 k l0 (([] : List Int)) l0 (l0.length : Int) 0
theorem impl_DepthsOf.mono_l : ∀ k, (∀ y0 y1 y2 y3 y4, LeO (impl_DepthsOf.l0 k y0 y1 y2 y3 y4) (impl_DepthsOf.l0 (k + 1) y0 y1 y2 y3 y4)) ∧ (∀ y0 y1 y2 y3 y4 y5 y6 y7 y8, LeO (impl_DepthsOf.l1 k y0 y1 y2 y3 y4 y5 y6 y7 y8) (impl_DepthsOf.l1 (k + 1) y0 y1 y2 y3 y4 y5 y6 y7 y8))
  | 0 => ⟨fun _ _ _ _ _ r h => by simp [impl_DepthsOf.l0] at h, fun _ _ _ _ _ _ _ _ _ r h => by simp [impl_DepthsOf.l1] at h⟩
  | k + 1 => by
    obtain ⟨ih0, ih1⟩ := impl_DepthsOf.mono_l k
    refine ⟨?_, ?_⟩
    · intro y0 y1 y2 y3 y4
      unfold impl_DepthsOf.l0
      repeat' first
      | (with_reducible exact ih0 _ _ _ _ _)
      | (with_reducible exact ih1 _ _ _ _ _ _ _ _ _)
      | (with_reducible exact impl_Distinct.mono _ _)
      | (with_reducible exact LeO.refl _)
      | (with_reducible exact LeO.none _)
      | (with_reducible refine LeO.ite ?_ ?_)
      | (with_reducible refine LeO.bind ?_ (fun _ => ?_))
      | exact ih0 _ _ _ _ _
      | exact ih1 _ _ _ _ _ _ _ _ _
      | exact impl_Distinct.mono _ _
      | exact LeO.none _
      | refine LeO.ite ?_ ?_
      | refine LeO.bind ?_ (fun _ => ?_)
    · intro y0 y1 y2 y3 y4 y5 y6 y7 y8
      unfold impl_DepthsOf.l1
      repeat' first
      | (with_reducible exact ih0 _ _ _ _ _)
      | (with_reducible exact ih1 _ _ _ _ _ _ _ _ _)
      | (with_reducible exact impl_Distinct.mono _ _)
      | (with_reducible exact LeO.refl _)
      | (with_reducible exact LeO.none _)
      | (with_reducible refine LeO.ite ?_ ?_)
      | (with_reducible refine LeO.bind ?_ (fun _ => ?_))
      | exact ih0 _ _ _ _ _
      | exact ih1 _ _ _ _ _ _ _ _ _
      | exact impl_Distinct.mono _ _
      | exact LeO.none _
      | refine LeO.ite ?_ ?_
      | refine LeO.bind ?_ (fun _ => ?_)
theorem impl_DepthsOf.mono : ∀ a0 k, LeO (impl_DepthsOf.f k a0) (impl_DepthsOf.f (k + 1) a0) := by
  intro a0 k
  obtain ⟨ih0, ih1⟩ := impl_DepthsOf.mono_l k
  unfold impl_DepthsOf.f
  repeat' first
      | (with_reducible exact ih0 _ _ _ _ _)
      | (with_reducible exact ih1 _ _ _ _ _ _ _ _ _)
      | (with_reducible exact impl_Distinct.mono _ _)
      | (with_reducible exact LeO.refl _)
      | (with_reducible exact LeO.none _)
      | (with_reducible refine LeO.ite ?_ ?_)
      | (with_reducible refine LeO.bind ?_ (fun _ => ?_))
      | exact ih0 _ _ _ _ _
      | exact ih1 _ _ _ _ _ _ _ _ _
      | exact impl_Distinct.mono _ _
      | exact LeO.none _
      | refine LeO.ite ?_ ?_
      | refine LeO.bind ?_ (fun _ => ?_)
set_option maxHeartbeats 8000000 in
set_option maxRecDepth 100000 in
theorem impl_DepthsOf.calls (k : Nat) (A0 : Option Addr) (c0 : Nat) (l0 : List ByteArray) (r : List Int) (w : World) (hr0 : Kd.C Kd.string w A0 l0.length l0) (hc0 : l0.length ≤ c0) (h : impl_DepthsOf.f k l0 = some r) :
    Calls Try.prog 38 #[.slice A0 l0.length c0] w fun e w' => ∃ v0_ : Value, e = .returned (v0_) ∧ Kd.R (Kd.int .i64) 3 w' w.heap.size (fun _ => True) v0_ r ∧ Below w.heap.size w w' := by
  have HR0 := Aside0.mk hr0
  have HC0 := Aside0.mk hc0
  clear hr0 hc0
  have HB := Aside0.mk (Below.refl w.heap.size w)
  have H : (impl_DepthsOf.l0 k l0 (([] : List Int)) l0 (l0.length : Int) 0) = some r := h
  clear h
  obtain ⟨y666, hy666⟩ : ∃ y_ : List Int, y_ = (([] : List Int)) := ⟨_, rfl⟩
  replace H : (impl_DepthsOf.l0 k l0 y666 l0 (l0.length : Int) 0) = some r := by first | (rw [hy666]; with_reducible exact H) | (have H2_ := (Option.bind_some _ _).symm.trans H; rw [hy666]; with_reducible exact H2_) | (have H2_ := (Option.bind_some _ _).symm.trans H; with_reducible exact H2_) | with_reducible exact H | (rw [hy666]; exact H) | exact H
  have Ny666 := Aside0.mk hy666
  clear hy666
  have H' := Aside0.mk H
  clear H
  go_enter Try.func38, Try.ntmps38
  go_wp2_with (first | ((with_reducible refine gate_dst (N := 8) rfl ?_); refine Kd.R_lit (Kd.int .i64) _ 3 ?hg (N := 8) ?hd (xs := ([] : List Int)) (inner := []) (ok := fun _ => True) (okp := fun _ => True) ?hr ?hp (fun _ hk => hk) trivial (Below.refl _ _) (Nat.le_refl _) (by simp) ?_; (case hd => rfl); (case hg => rfl); (case hr => first | (go_simp; done) | (go_simp; rfl)); (case hp => exact (Reps.none _ _)); intro v667 w2 ho3 hb hg_ hnew_; clear hg_ hnew_; (first | rw [← Ny666.out] at ho3 | (simp only [Int.reduceToNat] at ho3; rw [← Ny666.out] at ho3)); have n0_ := Aside0.mk (Kd.R_lower ho3 (below_size (by repeat (first | (with_reducible first | exact HB.out | apply below_alloc | apply pw_below_drewN | apply below_drew1) | exact HB.out)))); have n1_ := Aside0.mk (below_step (by repeat (first | (with_reducible first | exact HB.out | apply below_alloc | apply pw_below_drewN | apply below_drew1) | exact HB.out)) hb); clear HB; have HO668 := n0_; have HB := n1_; clear n0_ n1_; clear hb ho3))
  go_loopg [3, 11] k (fun kq v3 v11 w' => ∃ (x3_1 : List Int) (x11_1 : Int), v11 = .int .i64 x11_1 ∧ Aside0 (impl_DepthsOf.l0 kq l0 x3_1 l0 (l0.length : Int) x11_1 = some r) ∧ Aside0 (kq ≤ k) ∧ Aside0 (Kd.R (Kd.int .i64) 3 w' w.heap.size (fun _ => True) v3 x3_1) ∧ Aside0 (Below w.heap.size w w'))
  case atStart => exact ⟨(y666), (0), (by first | rfl | (simp; done) | (simp [*]; done)), H', ⟨Nat.le_refl _⟩, ⟨by (with_reducible repeat (first | apply Kd.R_alloc | apply Kd.R_drewN | apply Kd.R_drew)); exact HO668.out⟩, ⟨by repeat (first | (with_reducible first | exact HB.out | apply below_alloc | apply pw_below_drewN | apply below_drew1) | exact HB.out)⟩⟩
  case round =>
    clear H'
    try clear p2
    try clear c3
    obtain ⟨x3_1, x11_1, rfl, HA, HK1, HO_3, HB⟩ := hrel
    cases gk with
    | zero => exact absurd HA.out (by simp [impl_DepthsOf.l0])
    | succ k1 =>
      have H := HA.out
      clear HA
      simp only [impl_DepthsOf.l0] at H
      by_cases c4 : x11_1 < (l0.length : Int)
      · rw [if_pos c4] at H
        have c4b0 : decide (x11_1 < (l0.length : Int)) = true := decide_eq_true c4
        clear c4
        by_cases c5 : 0 ≤ x11_1
        · rw [if_pos c5] at H
          have c5b0 : decide (0 ≤ x11_1) = true := decide_eq_true c5
          clear c5
          by_cases c6 : x11_1 < (l0.length : Int)
          · rw [if_pos c6] at H
            have c6b0 : decide (x11_1 < (l0.length : Int)) = true := decide_eq_true c6
            clear c6
            have H' := Aside0.mk H
            clear H
            have p669 : 0 ≤ (x11_1 : Int) := of_decide_eq_true (by first | (with_reducible assumption) | assumption)
            have q669 : x11_1 < (l0.length : Int) := of_decide_eq_true (by first | (with_reducible assumption) | assumption)
            obtain ⟨ad669, e669, hx669_0⟩ := Kd.at_string HR0.out x11_1 p669 q669
            cases e669
            replace hx669_0 := (HB.out.cell (World.block_lt_of_cell? w _ hx669_0)).trans hx669_0
            replace p669 := eq_true p669
            replace q669 := eq_true q669
            go_wp2
            go_loopg [6, 7] k1 (fun kq v6 v7 w' => ∃ (x6_2 : Int) (x7_2 : Int), v6 = .int .i64 x6_2 ∧ v7 = .int .i64 x7_2 ∧ Aside0 (impl_DepthsOf.l1 kq l0 x3_1 x11_1 (rdOf ByteArray.empty l0 x11_1) x6_2 x7_2 l0 (l0.length : Int) x11_1 = some r) ∧ Aside0 (kq ≤ k1) ∧ Aside0 (Kd.R (Kd.int .i64) 3 w' w.heap.size (fun _ => True) u3 x3_1) ∧ Aside0 (Below w.heap.size w w'))
            case atStart => exact ⟨((-1)), (wrap64 (x11_1 - 1)), (by first | rfl | (simp; done) | (simp [*]; done)), (by first | rfl | (simp; done) | (simp [*]; done)), H', ⟨Nat.le_refl _⟩, ⟨by (with_reducible repeat (first | apply Kd.R_alloc | apply Kd.R_drewN | apply Kd.R_drew)); exact HO_3.out⟩, ⟨by repeat (first | (with_reducible first | exact HB.out | apply below_alloc | apply pw_below_drewN | apply below_drew1) | exact HB.out)⟩⟩
            case round =>
              clear H'
              try clear p2
              try clear c3
              try clear c4
              try clear c4b0
              try clear c5
              try clear c5b0
              try clear c6
              try clear c6b0
              try clear p6
              try clear q6
              try clear hx6
              try clear hx669_0
              try clear p2
              try clear p669
              try clear q669
              obtain ⟨x6_2, x7_2, rfl, rfl, HA, HK2, HO_3, HB⟩ := hrel
              cases gk with
              | zero => exact absurd HA.out (by simp [impl_DepthsOf.l1])
              | succ k2 =>
                have H := HA.out
                clear HA
                simp only [impl_DepthsOf.l1] at H
                by_cases c7 : x7_2 ≥ 0
                · rw [if_pos c7] at H
                  have c7b0 : decide (0 ≤ x7_2) = true := decide_eq_true c7
                  clear c7
                  by_cases c8 : 0 ≤ x7_2
                  · rw [if_pos c8] at H
                    have c8b0 : decide (0 ≤ x7_2) = true := decide_eq_true c8
                    clear c8
                    by_cases c9 : x7_2 < (l0.length : Int)
                    · rw [if_pos c9] at H
                      have c9b0 : decide (x7_2 < (l0.length : Int)) = true := decide_eq_true c9
                      clear c9
                      by_cases c10 : (rdOf ByteArray.empty l0 x7_2).toList = (rdOf ByteArray.empty l0 x11_1).toList
                      · rw [if_pos c10] at H
                        have c10b0 : ((rdOf ByteArray.empty l0 x7_2).toList == (rdOf ByteArray.empty l0 x11_1).toList) = true := beq_iff_eq.mpr c10
                        have c10b1 : ((rdOf ByteArray.empty l0 x7_2).toList != (rdOf ByteArray.empty l0 x11_1).toList) = false := bne_eq_false_iff_eq.mpr c10
                        clear c10
                        obtain ⟨ji11, hji11⟩ : ∃ j_ : Int, (wrap64 (x7_2 + 1)) = j_ := ⟨_, rfl⟩
                        replace H : (if 0 ≤ (ji11) then (if (ji11) ≤ x11_1 then (if x11_1 ≤ (l0.length : Int) then ((impl_Distinct.f k2 ((l0.take (x11_1 : Int).toNat).drop ((ji11) : Int).toNat)).bind fun t672 => (if x3_1.length < 17592186044416 then (impl_DepthsOf.l0 k2 l0 (x3_1 ++ [(t672.length : Int)]) l0 (l0.length : Int) (wrap64 (x11_1 + 1))) else (none))) else (none)) else (none)) else (none)) = some r := by first | (rw [hji11] at H; exact H) | (simp only [hji11] at H ⊢; exact H)
                        have hji11w : (IntKind.i64.wrap (x7_2 + 1)) = ji11 := (i64_w _).trans hji11
                        by_cases c12 : 0 ≤ (ji11)
                        · rw [if_pos c12] at H
                          have c12b0 := eq_true c12
                          have c12b1 : decide (0 ≤ (ji11)) = true := decide_eq_true c12
                          clear c12
                          by_cases c13 : (ji11) ≤ x11_1
                          · rw [if_pos c13] at H
                            have c13b0 := eq_true c13
                            have c13b1 : decide ((ji11) ≤ x11_1) = true := decide_eq_true c13
                            clear c13
                            by_cases c14 : x11_1 ≤ (l0.length : Int)
                            · rw [if_pos c14] at H
                              have c14b0 := eq_true c14
                              have c14b1 : decide (x11_1 ≤ (l0.length : Int)) = true := decide_eq_true c14
                              clear c14
                              replace H := Option.bind_eq_some_iff.mp H
                              obtain ⟨t672, A150, H⟩ := H
                              replace H : (if x3_1.length < 17592186044416 then (impl_DepthsOf.l0 k2 l0 (x3_1 ++ [(t672.length : Int)]) l0 (l0.length : Int) (wrap64 (x11_1 + 1))) else (none)) = some r := H
                              have A15 := Aside0.mk A150
                              clear A150
                              by_cases c16 : x3_1.length < 17592186044416
                              · rw [if_pos c16] at H
                                have LMc16 := Aside0.mk c16
                                clear c16
                                obtain ⟨y675, hy675⟩ : ∃ y_ : List Int, y_ = (x3_1 ++ [(t672.length : Int)]) := ⟨_, rfl⟩
                                replace H : (impl_DepthsOf.l0 k2 l0 y675 l0 (l0.length : Int) (wrap64 (x11_1 + 1))) = some r := by first | (rw [hy675]; with_reducible exact H) | (have H2_ := (Option.bind_some _ _).symm.trans H; rw [hy675]; with_reducible exact H2_) | (have H2_ := (Option.bind_some _ _).symm.trans H; with_reducible exact H2_) | with_reducible exact H | (rw [hy675]; exact H) | exact H
                                have Ny675 := Aside0.mk hy675
                                clear hy675
                                have H' := Aside0.mk H
                                clear H
                                have p670 : 0 ≤ (x7_2 : Int) := of_decide_eq_true (by first | (with_reducible assumption) | assumption)
                                have q670 : x7_2 < (l0.length : Int) := of_decide_eq_true (by first | (with_reducible assumption) | assumption)
                                obtain ⟨ad670, e670, hx670_0⟩ := Kd.at_string HR0.out x7_2 p670 q670
                                obtain rfl : ad669 = ad670 := (by injection e670)
                                replace hx670_0 := (HB.out.cell (World.block_lt_of_cell? w _ hx670_0)).trans hx670_0
                                replace p670 := eq_true p670
                                replace q670 := eq_true q670
                                obtain ⟨i017, hi017, _, hsz17, _⟩ := info_parts info9
                                obtain ⟨A17, hcut17, hA17, hC17⟩ := print_mid_of (P := Try.prog) Value.string (⟨#[]⟩ : ByteArray) 23 9 .i64 .i64 Try.underlying23 hi017 hsz17 (some ad669) c0 l0 (ji11) x11_1 (of_decide_eq_true (by first | (with_reducible assumption) | assumption)) (by first | omega | exact of_decide_eq_true (by first | (with_reducible assumption) | assumption)) (of_decide_eq_true (by first | (with_reducible assumption) | assumption)) HC0.out
                                have HR671 := Aside0.mk (Kd.C_of_reads (h1 := fun _ => rfl) (hA17 _ (Kd.reads_of_C HR0.out)))
                                have HC671 := Aside0.mk hC17
                                clear hA17 hC17 hi017 hsz17
                                go_wp2_with (first | ((with_reducible refine gate_callee (f := 14) rfl ?_); refine goesL_ (some 33) rfl rfl Try.func14 (by kernel_rfl) rfl #[.slice A17 ((l0.take (x11_1 : Int).toNat).drop ((ji11) : Int).toNat).length (c0 - (ji11).toNat)] rfl (by (try simp only [List.map_toArray, List.map_cons, List.map_nil]); first | done | (rw [show ((l0.take (x11_1 : Int).toNat).drop ((ji11) : Int).toNat).length = (x11_1.toNat - (ji11).toNat) from (by rw [List.length_drop, List.length_take]; have h_ : (x11_1 : Int) ≤ (l0.length : Int) := of_decide_eq_true (by first | (with_reducible assumption) | assumption); omega)] <;> rfl) | (simp only [hji11]; rfl) | rfl | (simp only [List.length_drop, List.length_take]; rfl)) ?_; (with_reducible refine (impl_Distinct.calls k2 _ _ ((l0.take (x11_1 : Int).toNat).drop ((ji11) : Int).toNat) t672 _ ?side1 ?side2 A15.out).mono ?_); (case side1 => repeat (first | exact (Kd.C_below HR671.out HB.out) | (with_reducible refine Kd.C_alloc ?_ _) | (with_reducible refine Kd.C_drewN ?_ _) | (with_reducible refine Kd.C_drew ?_))); (case side2 => exact HC671.out); rintro e w18 ⟨v673, rfl, ho0, hb⟩; refine ⟨_, rfl, ?_⟩; have n0_ := Aside0.mk (Kd.R_below (by (with_reducible repeat (first | apply Kd.R_alloc | apply Kd.R_drewN | apply Kd.R_drew)); exact HO_3.out) hb); have n1_ := Aside0.mk (Kd.R_lower ho0 (below_size (by repeat (first | (with_reducible first | exact HB.out | apply below_alloc | apply pw_below_drewN | apply below_drew1) | exact HB.out)))); have n2_ := Aside0.mk (below_step (by repeat (first | (with_reducible first | exact HB.out | apply below_alloc | apply pw_below_drewN | apply below_drew1) | exact HB.out)) hb); clear HO_3; clear HB; have HO_3 := n0_; have HO674 := n1_; have HB := n2_; clear n0_ n1_ n2_; (try clear hb); (try clear hb2); (try clear hk); (try clear hi); (try clear ho0); obtain ⟨Ao19, co19, eo19⟩ := Kd.R_slice HO674.out; subst eo19) | ((with_reducible refine gate_builtin (b := .append) (xs := #[.tmp 35, .tmp 37]) rfl ?_); at_builtin; refine Kd.R_append (Kd.int .i64) (w0 := w) w.heap.size rfl (.tmp 35) (.tmp 37) 63 3 (.int .i64 0) 8 rfl Try.underlying63 info3 rfl (by decide) (by omega) u3 x3_1 (t672.length : Int) [.int .i64 (t672.length : Int)] (fun _ => True) (fun _ => False) rfl rfl ?aP (fun _ hk => hk.elim) ?aF ?aO ?aB ?aS ?aL ?_; (case aP => exact rfl); (case aB => exact (by repeat (first | (with_reducible first | exact HB.out | apply below_alloc | apply pw_below_drewN | apply below_drew1) | exact HB.out))); (case aF => exact (fun _ _ => trivial)); (case aO => exact (by (with_reducible repeat (first | apply Kd.R_alloc | apply Kd.R_drewN | apply Kd.R_drew)); exact HO_3.out)); (case aS => exact (below_size (by repeat (first | (with_reducible first | exact HB.out | apply below_alloc | apply pw_below_drewN | apply below_drew1) | exact HB.out)))); (case aL => have := LMc16.out; omega); intro v676 w20 ho hb hg hat; rw [← Ny675.out] at ho; have n0_ := Aside0.mk (Kd.R_over' (by (with_reducible repeat (first | apply Kd.R_alloc | apply Kd.R_drewN | apply Kd.R_drew)); exact HO674.out) (Kd.R_typed (by (with_reducible repeat (first | apply Kd.R_alloc | apply Kd.R_drewN | apply Kd.R_drew)); exact HO_3.out)) (by decide) hg); have n1_ := Aside0.mk (hb); have n2_ := Aside0.mk (ho); clear HO674; clear HB; clear HO_3; have HO674 := n0_; have HB := n1_; have HO677 := n2_; clear n0_ n1_ n2_; clear ho hb hg hat))
                                go_roundg k2
                                case measure => have := HK1.out; have := HK2.out; omega
                                case rel => exact ⟨(y675), (wrap64 (x11_1 + 1)), (by first | rfl | (simp; done) | (simp [*]; done)), H', ⟨by have := HK1.out; have := HK2.out; omega⟩, ⟨by (with_reducible repeat (first | apply Kd.R_alloc | apply Kd.R_drewN | apply Kd.R_drew)); exact HO677.out⟩, ⟨by repeat (first | (with_reducible first | exact HB.out | apply below_alloc | apply pw_below_drewN | apply below_drew1) | exact HB.out)⟩⟩
                              · rw [if_neg c16] at H
                                exact absurd H (by simp)
                            · rw [if_neg c14] at H
                              exact absurd H (by simp)
                          · rw [if_neg c13] at H
                            exact absurd H (by simp)
                        · rw [if_neg c12] at H
                          exact absurd H (by simp)
                      · rw [if_neg c10] at H
                        have c10b0 : ((rdOf ByteArray.empty l0 x7_2).toList == (rdOf ByteArray.empty l0 x11_1).toList) = false := beq_eq_false_iff_ne.mpr c10
                        have c10b1 : ((rdOf ByteArray.empty l0 x7_2).toList != (rdOf ByteArray.empty l0 x11_1).toList) = true := bne_iff_ne.mpr c10
                        have H' := Aside0.mk H
                        clear H
                        have p670 : 0 ≤ (x7_2 : Int) := of_decide_eq_true (by first | (with_reducible assumption) | assumption)
                        have q670 : x7_2 < (l0.length : Int) := of_decide_eq_true (by first | (with_reducible assumption) | assumption)
                        obtain ⟨ad670, e670, hx670_0⟩ := Kd.at_string HR0.out x7_2 p670 q670
                        obtain rfl : ad669 = ad670 := (by injection e670)
                        replace hx670_0 := (HB.out.cell (World.block_lt_of_cell? w _ hx670_0)).trans hx670_0
                        replace p670 := eq_true p670
                        replace q670 := eq_true q670
                        go_wp2
                        go_roundg k2
                        case measure => have := HK1.out; have := HK2.out; omega
                        case rel => exact ⟨(x6_2), (wrap64 (x7_2 - 1)), (by first | rfl | (simp; done) | (simp [*]; done)), (by first | rfl | (simp; done) | (simp [*]; done)), H', ⟨by have := HK1.out; have := HK2.out; omega⟩, ⟨by (with_reducible repeat (first | apply Kd.R_alloc | apply Kd.R_drewN | apply Kd.R_drew)); exact HO_3.out⟩, ⟨by repeat (first | (with_reducible first | exact HB.out | apply below_alloc | apply pw_below_drewN | apply below_drew1) | exact HB.out)⟩⟩
                    · rw [if_neg c9] at H
                      exact absurd H (by simp)
                  · rw [if_neg c8] at H
                    exact absurd H (by simp)
                · rw [if_neg c7] at H
                  have c7b0 : decide (0 ≤ x7_2) = false := decide_eq_false c7
                  clear c7
                  by_cases c21 : x3_1.length < 17592186044416
                  · rw [if_pos c21] at H
                    have LMc21 := Aside0.mk c21
                    clear c21
                    obtain ⟨y678, hy678⟩ : ∃ y_ : List Int, y_ = (x3_1 ++ [x6_2]) := ⟨_, rfl⟩
                    replace H : (impl_DepthsOf.l0 k2 l0 y678 l0 (l0.length : Int) (wrap64 (x11_1 + 1))) = some r := by first | (rw [hy678]; with_reducible exact H) | (have H2_ := (Option.bind_some _ _).symm.trans H; rw [hy678]; with_reducible exact H2_) | (have H2_ := (Option.bind_some _ _).symm.trans H; with_reducible exact H2_) | with_reducible exact H | (rw [hy678]; exact H) | exact H
                    have Ny678 := Aside0.mk hy678
                    clear hy678
                    have H' := Aside0.mk H
                    clear H
                    go_wp2_with (first | ((with_reducible refine gate_builtin (b := .append) (xs := #[.tmp 35, .tmp 37]) rfl ?_); at_builtin; refine Kd.R_append (Kd.int .i64) (w0 := w) w.heap.size rfl (.tmp 35) (.tmp 37) 63 3 (.int .i64 0) 8 rfl Try.underlying63 info3 rfl (by decide) (by omega) u3 x3_1 x6_2 [.int .i64 x6_2] (fun _ => True) (fun _ => False) rfl rfl ?aP (fun _ hk => hk.elim) ?aF ?aO ?aB ?aS ?aL ?_; (case aP => exact rfl); (case aB => exact (by repeat (first | (with_reducible first | exact HB.out | apply below_alloc | apply pw_below_drewN | apply below_drew1) | exact HB.out))); (case aF => exact (fun _ _ => trivial)); (case aO => exact (by (with_reducible repeat (first | apply Kd.R_alloc | apply Kd.R_drewN | apply Kd.R_drew)); exact HO_3.out)); (case aS => exact (below_size (by repeat (first | (with_reducible first | exact HB.out | apply below_alloc | apply pw_below_drewN | apply below_drew1) | exact HB.out)))); (case aL => have := LMc21.out; omega); intro v679 w22 ho hb hg hat; rw [← Ny678.out] at ho; have n0_ := Aside0.mk (hb); have n1_ := Aside0.mk (ho); clear HB; clear HO_3; have HB := n0_; have HO680 := n1_; clear n0_ n1_; clear ho hb hg hat))
                    go_roundg k2
                    case measure => have := HK1.out; have := HK2.out; omega
                    case rel => exact ⟨(y678), (wrap64 (x11_1 + 1)), (by first | rfl | (simp; done) | (simp [*]; done)), H', ⟨by have := HK1.out; have := HK2.out; omega⟩, ⟨by (with_reducible repeat (first | apply Kd.R_alloc | apply Kd.R_drewN | apply Kd.R_drew)); exact HO680.out⟩, ⟨by repeat (first | (with_reducible first | exact HB.out | apply below_alloc | apply pw_below_drewN | apply below_drew1) | exact HB.out)⟩⟩
                  · rw [if_neg c21] at H
                    exact absurd H (by simp)
          · rw [if_neg c6] at H
            exact absurd H (by simp)
        · rw [if_neg c5] at H
          exact absurd H (by simp)
      · rw [if_neg c4] at H
        have c4b0 : decide (x11_1 < (l0.length : Int)) = false := decide_eq_false c4
        clear c4
        obtain rfl := Option.some.inj H
        go_wp2
        go_ret
        exact ⟨_, by first | rfl | (simp [errW_none, errW_some] <;> rfl) | (simp [*, errW_none, errW_some] <;> rfl), by (with_reducible repeat (first | apply Kd.R_alloc | apply Kd.R_drewN | apply Kd.R_drew)); exact HO_3.out, by repeat (first | (with_reducible first | exact HB.out | apply below_alloc | apply pw_below_drewN | apply below_drew1) | exact HB.out)⟩

end Go.Proofs.Ytkaahabgbngodaa.Core

namespace Go.Proofs.Ytkaahabgbngodaa.Core
open Go.RowKit Go.Proofs.YtkaahabgbngodaaW.PrintWords Go.Proofs.YtkaahabgbngodaaW.PrintLast Go.Proofs.YtkaahabgbngodaaW.PrintMore
attribute [local go_sem] max2_int min2_int max_two min_two max_three min_three max_four min_four   -- for this text's walks alone
set_option linter.unusedVariables false
set_option linter.unusedSimpArgs false

/-! ### impl_MissesAt: function 39 -/
def impl_MissesAt.l0 : Nat → Int → Int → List Int → Int → Int → Option (Int)
  | 0, _, _, _, _, _ => none
  | k + 1, x1, x5, x8, x9, x10 => if x10 < x9 then (if 0 ≤ x10 then (if x10 < (x8.length : Int) then (if (rd x8 x10) < 0 then (impl_MissesAt.l0 k x1 (wrap64 (x5 + 1)) x8 x9 (wrap64 (x10 + 1))) else (if (rd x8 x10) ≥ x1 then (impl_MissesAt.l0 k x1 (wrap64 (x5 + 1)) x8 x9 (wrap64 (x10 + 1))) else (impl_MissesAt.l0 k x1 x5 x8 x9 (wrap64 (x10 + 1))))) else (none)) else (none)) else (some x5)
def impl_MissesAt.f (k : Nat) (l0 : List Int) (a1 : Int) : Option (Int) := impl_MissesAt.l0 k a1 0 l0 (l0.length : Int) 0
theorem impl_MissesAt.mono_l : ∀ k, (∀ y0 y1 y2 y3 y4, LeO (impl_MissesAt.l0 k y0 y1 y2 y3 y4) (impl_MissesAt.l0 (k + 1) y0 y1 y2 y3 y4))
  | 0 => fun _ _ _ _ _ r h => by simp [impl_MissesAt.l0] at h
  | k + 1 => by
    have ih0 := impl_MissesAt.mono_l k
    · intro y0 y1 y2 y3 y4
      unfold impl_MissesAt.l0
      repeat' first
      | (with_reducible exact ih0 _ _ _ _ _)
      | (with_reducible exact LeO.refl _)
      | (with_reducible exact LeO.none _)
      | (with_reducible refine LeO.ite ?_ ?_)
      | (with_reducible refine LeO.bind ?_ (fun _ => ?_))
      | exact ih0 _ _ _ _ _
      | exact LeO.none _
      | refine LeO.ite ?_ ?_
      | refine LeO.bind ?_ (fun _ => ?_)
theorem impl_MissesAt.mono : ∀ a0 a1 k, LeO (impl_MissesAt.f k a0 a1) (impl_MissesAt.f (k + 1) a0 a1) := by
  intro a0 a1 k
  have ih0 := impl_MissesAt.mono_l k
  unfold impl_MissesAt.f
  repeat' first
      | (with_reducible exact ih0 _ _ _ _ _)
      | (with_reducible exact LeO.refl _)
      | (with_reducible exact LeO.none _)
      | (with_reducible refine LeO.ite ?_ ?_)
      | (with_reducible refine LeO.bind ?_ (fun _ => ?_))
      | exact ih0 _ _ _ _ _
      | exact LeO.none _
      | refine LeO.ite ?_ ?_
      | refine LeO.bind ?_ (fun _ => ?_)
set_option maxHeartbeats 8000000 in
set_option maxRecDepth 100000 in
theorem impl_MissesAt.calls (k : Nat) (A0 : Option Addr) (c0 : Nat) (l0 : List Int) (a1 : Int) (r : Int) (w : World) (hr0 : Kd.C (Kd.int .i64) w A0 l0.length l0) (hc0 : l0.length ≤ c0) (h : impl_MissesAt.f k l0 a1 = some r) :
    Calls Try.prog 39 #[.slice A0 l0.length c0, .int .i64 a1] w fun e w' => e = .returned (.int .i64 r) ∧ Drawn0 w w' := by
  have HR0 := Aside0.mk hr0
  have HC0 := Aside0.mk hc0
  clear hr0 hc0
  have H : (impl_MissesAt.l0 k a1 0 l0 (l0.length : Int) 0) = some r := h
  clear h
  have H' := Aside0.mk H
  clear H
  go_enter Try.func39, Try.ntmps39
  go_wp2
  go_loopg [5, 10] k (fun kq v5 v10 w' => ∃ (x5_1 : Int) (x10_1 : Int), v5 = .int .i64 x5_1 ∧ v10 = .int .i64 x10_1 ∧ Aside0 (impl_MissesAt.l0 kq a1 x5_1 l0 (l0.length : Int) x10_1 = some r) ∧ Aside0 (kq ≤ k) ∧ Drawn0 w w')
  case atStart => exact ⟨(0), (0), (by first | rfl | (simp; done) | (simp [*]; done)), (by first | rfl | (simp; done) | (simp [*]; done)), H', ⟨Nat.le_refl _⟩, by repeat (first | exact Drawn0.refl _ | apply Drawn0.step)⟩
  case round =>
    clear H'
    try clear p2
    obtain ⟨x5_1, x10_1, rfl, rfl, HA, HK1, ⟨m1, rfl⟩⟩ := hrel
    cases gk with
    | zero => exact absurd HA.out (by simp [impl_MissesAt.l0])
    | succ k1 =>
      have H := HA.out
      clear HA
      simp only [impl_MissesAt.l0] at H
      by_cases c3 : x10_1 < (l0.length : Int)
      · rw [if_pos c3] at H
        have c3b0 : decide (x10_1 < (l0.length : Int)) = true := decide_eq_true c3
        clear c3
        by_cases c4 : 0 ≤ x10_1
        · rw [if_pos c4] at H
          have c4b0 : decide (0 ≤ x10_1) = true := decide_eq_true c4
          clear c4
          by_cases c5 : x10_1 < (l0.length : Int)
          · rw [if_pos c5] at H
            have c5b0 : decide (x10_1 < (l0.length : Int)) = true := decide_eq_true c5
            clear c5
            by_cases c6 : (rd l0 x10_1) < 0
            · rw [if_pos c6] at H
              have c6b0 : decide ((rd l0 x10_1) < 0) = true := decide_eq_true c6
              clear c6
              have H' := Aside0.mk H
              clear H
              have p681 : 0 ≤ (x10_1 : Int) := of_decide_eq_true (by first | (with_reducible assumption) | assumption)
              have q681 : x10_1 < (l0.length : Int) := of_decide_eq_true (by first | (with_reducible assumption) | assumption)
              obtain ⟨ad681, e681, hx681_0⟩ := Kd.at_int HR0.out x10_1 p681 q681
              cases e681
              replace p681 := eq_true p681
              replace q681 := eq_true q681
              go_wp2
              go_roundg k1
              case measure => have := HK1.out; omega
              case rel => exact ⟨(wrap64 (x5_1 + 1)), (wrap64 (x10_1 + 1)), (by first | rfl | (simp; done) | (simp [*]; done)), (by first | rfl | (simp; done) | (simp [*]; done)), H', ⟨by have := HK1.out; omega⟩, by repeat (first | exact Drawn0.refl _ | apply Drawn0.step)⟩
            · rw [if_neg c6] at H
              have c6b0 : decide ((rd l0 x10_1) < 0) = false := decide_eq_false c6
              clear c6
              by_cases c7 : (rd l0 x10_1) ≥ a1
              · rw [if_pos c7] at H
                have c7b0 : decide (a1 ≤ (rd l0 x10_1)) = true := decide_eq_true c7
                clear c7
                have H' := Aside0.mk H
                clear H
                have p681 : 0 ≤ (x10_1 : Int) := of_decide_eq_true (by first | (with_reducible assumption) | assumption)
                have q681 : x10_1 < (l0.length : Int) := of_decide_eq_true (by first | (with_reducible assumption) | assumption)
                obtain ⟨ad681, e681, hx681_0⟩ := Kd.at_int HR0.out x10_1 p681 q681
                cases e681
                replace p681 := eq_true p681
                replace q681 := eq_true q681
                go_wp2
                go_roundg k1
                case measure => have := HK1.out; omega
                case rel => exact ⟨(wrap64 (x5_1 + 1)), (wrap64 (x10_1 + 1)), (by first | rfl | (simp; done) | (simp [*]; done)), (by first | rfl | (simp; done) | (simp [*]; done)), H', ⟨by have := HK1.out; omega⟩, by repeat (first | exact Drawn0.refl _ | apply Drawn0.step)⟩
              · rw [if_neg c7] at H
                have c7b0 : decide (a1 ≤ (rd l0 x10_1)) = false := decide_eq_false c7
                clear c7
                have H' := Aside0.mk H
                clear H
                have p681 : 0 ≤ (x10_1 : Int) := of_decide_eq_true (by first | (with_reducible assumption) | assumption)
                have q681 : x10_1 < (l0.length : Int) := of_decide_eq_true (by first | (with_reducible assumption) | assumption)
                obtain ⟨ad681, e681, hx681_0⟩ := Kd.at_int HR0.out x10_1 p681 q681
                cases e681
                replace p681 := eq_true p681
                replace q681 := eq_true q681
                go_wp2
                go_roundg k1
                case measure => have := HK1.out; omega
                case rel => exact ⟨(x5_1), (wrap64 (x10_1 + 1)), (by first | rfl | (simp; done) | (simp [*]; done)), (by first | rfl | (simp; done) | (simp [*]; done)), H', ⟨by have := HK1.out; omega⟩, by repeat (first | exact Drawn0.refl _ | apply Drawn0.step)⟩
          · rw [if_neg c5] at H
            exact absurd H (by simp)
        · rw [if_neg c4] at H
          exact absurd H (by simp)
      · rw [if_neg c3] at H
        have c3b0 : decide (x10_1 < (l0.length : Int)) = false := decide_eq_false c3
        clear c3
        obtain rfl := Option.some.inj H
        go_wp2
        go_ret
        exact ⟨by first | rfl | (simp; done) | (simp [*]; done), by repeat (first | exact Drawn0.refl _ | apply Drawn0.step)⟩

end Go.Proofs.Ytkaahabgbngodaa.Core

namespace Go.Proofs.Ytkaahabgbngodaa.Core
open Go.RowKit Go.Proofs.YtkaahabgbngodaaW.PrintWords Go.Proofs.YtkaahabgbngodaaW.PrintLast Go.Proofs.YtkaahabgbngodaaW.PrintMore
attribute [local go_sem] max2_int min2_int max_two min_two max_three min_three max_four min_four   -- for this text's walks alone
set_option linter.unusedVariables false
set_option linter.unusedSimpArgs false

/-! ### laws_hasText: function 40 -/
def laws_hasText.l0 : Nat → ByteArray → List ByteArray → Int → Int → Option (Bool)
  | 0, _, _, _, _ => none
  | k + 1, x1, x7, x8, x9 => if x9 < x8 then (if 0 ≤ x9 then (if x9 < (x7.length : Int) then (if (rdOf ByteArray.empty x7 x9).toList = x1.toList then (some true) else (laws_hasText.l0 k x1 x7 x8 (wrap64 (x9 + 1)))) else (none)) else (none)) else (some false)
def laws_hasText.f (k : Nat) (l0 : List ByteArray) (a1 : ByteArray) : Option (Bool) := laws_hasText.l0 k a1 l0 (l0.length : Int) 0
theorem laws_hasText.mono_l : ∀ k, (∀ y0 y1 y2 y3, LeO (laws_hasText.l0 k y0 y1 y2 y3) (laws_hasText.l0 (k + 1) y0 y1 y2 y3))
  | 0 => fun _ _ _ _ r h => by simp [laws_hasText.l0] at h
  | k + 1 => by
    have ih0 := laws_hasText.mono_l k
    · intro y0 y1 y2 y3
      unfold laws_hasText.l0
      repeat' first
      | (with_reducible exact ih0 _ _ _ _)
      | (with_reducible exact LeO.refl _)
      | (with_reducible exact LeO.none _)
      | (with_reducible refine LeO.ite ?_ ?_)
      | (with_reducible refine LeO.bind ?_ (fun _ => ?_))
      | exact ih0 _ _ _ _
      | exact LeO.none _
      | refine LeO.ite ?_ ?_
      | refine LeO.bind ?_ (fun _ => ?_)
theorem laws_hasText.mono : ∀ a0 a1 k, LeO (laws_hasText.f k a0 a1) (laws_hasText.f (k + 1) a0 a1) := by
  intro a0 a1 k
  have ih0 := laws_hasText.mono_l k
  unfold laws_hasText.f
  repeat' first
      | (with_reducible exact ih0 _ _ _ _)
      | (with_reducible exact LeO.refl _)
      | (with_reducible exact LeO.none _)
      | (with_reducible refine LeO.ite ?_ ?_)
      | (with_reducible refine LeO.bind ?_ (fun _ => ?_))
      | exact ih0 _ _ _ _
      | exact LeO.none _
      | refine LeO.ite ?_ ?_
      | refine LeO.bind ?_ (fun _ => ?_)
set_option maxHeartbeats 8000000 in
set_option maxRecDepth 100000 in
theorem laws_hasText.calls (k : Nat) (A0 : Option Addr) (c0 : Nat) (l0 : List ByteArray) (a1 : ByteArray) (r : Bool) (w : World) (hr0 : Kd.C Kd.string w A0 l0.length l0) (hc0 : l0.length ≤ c0) (h : laws_hasText.f k l0 a1 = some r) :
    Calls Try.prog 40 #[.slice A0 l0.length c0, .string a1] w fun e w' => e = .returned (.bool r) ∧ Drawn0 w w' := by
  have HR0 := Aside0.mk hr0
  have HC0 := Aside0.mk hc0
  clear hr0 hc0
  have H : (laws_hasText.l0 k a1 l0 (l0.length : Int) 0) = some r := h
  clear h
  have H' := Aside0.mk H
  clear H
  go_enter Try.func40, Try.ntmps40
  go_wp2
  go_loopg [9] k (fun kq v9 w' => ∃ (x9_1 : Int), v9 = .int .i64 x9_1 ∧ Aside0 (laws_hasText.l0 kq a1 l0 (l0.length : Int) x9_1 = some r) ∧ Aside0 (kq ≤ k) ∧ Drawn0 w w')
  case atStart => exact ⟨(0), (by first | rfl | (simp; done) | (simp [*]; done)), H', ⟨Nat.le_refl _⟩, by repeat (first | exact Drawn0.refl _ | apply Drawn0.step)⟩
  case round =>
    clear H'
    try clear p2
    obtain ⟨x9_1, rfl, HA, HK1, ⟨m1, rfl⟩⟩ := hrel
    cases gk with
    | zero => exact absurd HA.out (by simp [laws_hasText.l0])
    | succ k1 =>
      have H := HA.out
      clear HA
      simp only [laws_hasText.l0] at H
      by_cases c3 : x9_1 < (l0.length : Int)
      · rw [if_pos c3] at H
        have c3b0 : decide (x9_1 < (l0.length : Int)) = true := decide_eq_true c3
        clear c3
        by_cases c4 : 0 ≤ x9_1
        · rw [if_pos c4] at H
          have c4b0 : decide (0 ≤ x9_1) = true := decide_eq_true c4
          clear c4
          by_cases c5 : x9_1 < (l0.length : Int)
          · rw [if_pos c5] at H
            have c5b0 : decide (x9_1 < (l0.length : Int)) = true := decide_eq_true c5
            clear c5
            by_cases c6 : (rdOf ByteArray.empty l0 x9_1).toList = a1.toList
            · rw [if_pos c6] at H
              have c6b0 : ((rdOf ByteArray.empty l0 x9_1).toList == a1.toList) = true := beq_iff_eq.mpr c6
              have c6b1 : ((rdOf ByteArray.empty l0 x9_1).toList != a1.toList) = false := bne_eq_false_iff_eq.mpr c6
              clear c6
              obtain rfl := Option.some.inj H
              have p682 : 0 ≤ (x9_1 : Int) := of_decide_eq_true (by first | (with_reducible assumption) | assumption)
              have q682 : x9_1 < (l0.length : Int) := of_decide_eq_true (by first | (with_reducible assumption) | assumption)
              obtain ⟨ad682, e682, hx682_0⟩ := Kd.at_string HR0.out x9_1 p682 q682
              cases e682
              replace p682 := eq_true p682
              replace q682 := eq_true q682
              go_wp2
              go_ret
              exact ⟨by first | rfl | (simp; done) | (simp [*]; done), by repeat (first | exact Drawn0.refl _ | apply Drawn0.step)⟩
            · rw [if_neg c6] at H
              have c6b0 : ((rdOf ByteArray.empty l0 x9_1).toList == a1.toList) = false := beq_eq_false_iff_ne.mpr c6
              have c6b1 : ((rdOf ByteArray.empty l0 x9_1).toList != a1.toList) = true := bne_iff_ne.mpr c6
              have H' := Aside0.mk H
              clear H
              have p682 : 0 ≤ (x9_1 : Int) := of_decide_eq_true (by first | (with_reducible assumption) | assumption)
              have q682 : x9_1 < (l0.length : Int) := of_decide_eq_true (by first | (with_reducible assumption) | assumption)
              obtain ⟨ad682, e682, hx682_0⟩ := Kd.at_string HR0.out x9_1 p682 q682
              cases e682
              replace p682 := eq_true p682
              replace q682 := eq_true q682
              go_wp2
              go_roundg k1
              case measure => have := HK1.out; omega
              case rel => exact ⟨(wrap64 (x9_1 + 1)), (by first | rfl | (simp; done) | (simp [*]; done)), H', ⟨by have := HK1.out; omega⟩, by repeat (first | exact Drawn0.refl _ | apply Drawn0.step)⟩
          · rw [if_neg c5] at H
            exact absurd H (by simp)
        · rw [if_neg c4] at H
          exact absurd H (by simp)
      · rw [if_neg c3] at H
        have c3b0 : decide (x9_1 < (l0.length : Int)) = false := decide_eq_false c3
        clear c3
        obtain rfl := Option.some.inj H
        go_wp2
        go_ret
        exact ⟨by first | rfl | (simp; done) | (simp [*]; done), by repeat (first | exact Drawn0.refl _ | apply Drawn0.step)⟩

end Go.Proofs.Ytkaahabgbngodaa.Core

namespace Go.Proofs.Ytkaahabgbngodaa.Core
open Go.RowKit Go.Proofs.YtkaahabgbngodaaW.PrintWords Go.Proofs.YtkaahabgbngodaaW.PrintLast Go.Proofs.YtkaahabgbngodaaW.PrintMore
attribute [local go_sem] max2_int min2_int max_two min_two max_three min_three max_four min_four   -- for this text's walks alone
set_option linter.unusedVariables false
set_option linter.unusedSimpArgs false

/-! ### spec_l12Has: function 99 -/
def spec_l12Has.l0 : Nat → ByteArray → List ByteArray → Int → Int → Option (Bool)
  | 0, _, _, _, _ => none
  | k + 1, x1, x7, x8, x9 => if x9 < x8 then (if 0 ≤ x9 then (if x9 < (x7.length : Int) then (if (rdOf ByteArray.empty x7 x9).toList = x1.toList then (some true) else (spec_l12Has.l0 k x1 x7 x8 (wrap64 (x9 + 1)))) else (none)) else (none)) else (some false)
def spec_l12Has.f (k : Nat) (l0 : List ByteArray) (a1 : ByteArray) : Option (Bool) := spec_l12Has.l0 k a1 l0 (l0.length : Int) 0
theorem spec_l12Has.mono_l : ∀ k, (∀ y0 y1 y2 y3, LeO (spec_l12Has.l0 k y0 y1 y2 y3) (spec_l12Has.l0 (k + 1) y0 y1 y2 y3))
  | 0 => fun _ _ _ _ r h => by simp [spec_l12Has.l0] at h
  | k + 1 => by
    have ih0 := spec_l12Has.mono_l k
    · intro y0 y1 y2 y3
      unfold spec_l12Has.l0
      repeat' first
      | (with_reducible exact ih0 _ _ _ _)
      | (with_reducible exact LeO.refl _)
      | (with_reducible exact LeO.none _)
      | (with_reducible refine LeO.ite ?_ ?_)
      | (with_reducible refine LeO.bind ?_ (fun _ => ?_))
      | exact ih0 _ _ _ _
      | exact LeO.none _
      | refine LeO.ite ?_ ?_
      | refine LeO.bind ?_ (fun _ => ?_)
theorem spec_l12Has.mono : ∀ a0 a1 k, LeO (spec_l12Has.f k a0 a1) (spec_l12Has.f (k + 1) a0 a1) := by
  intro a0 a1 k
  have ih0 := spec_l12Has.mono_l k
  unfold spec_l12Has.f
  repeat' first
      | (with_reducible exact ih0 _ _ _ _)
      | (with_reducible exact LeO.refl _)
      | (with_reducible exact LeO.none _)
      | (with_reducible refine LeO.ite ?_ ?_)
      | (with_reducible refine LeO.bind ?_ (fun _ => ?_))
      | exact ih0 _ _ _ _
      | exact LeO.none _
      | refine LeO.ite ?_ ?_
      | refine LeO.bind ?_ (fun _ => ?_)
set_option maxHeartbeats 8000000 in
set_option maxRecDepth 100000 in
theorem spec_l12Has.calls (k : Nat) (A0 : Option Addr) (c0 : Nat) (l0 : List ByteArray) (a1 : ByteArray) (r : Bool) (w : World) (hr0 : Kd.C Kd.string w A0 l0.length l0) (hc0 : l0.length ≤ c0) (h : spec_l12Has.f k l0 a1 = some r) :
    Calls Try.prog 99 #[.slice A0 l0.length c0, .string a1] w fun e w' => e = .returned (.bool r) ∧ Drawn0 w w' := by
  have HR0 := Aside0.mk hr0
  have HC0 := Aside0.mk hc0
  clear hr0 hc0
  have H : (spec_l12Has.l0 k a1 l0 (l0.length : Int) 0) = some r := h
  clear h
  have H' := Aside0.mk H
  clear H
  go_enter Try.func99, Try.ntmps99
  go_wp2
  go_loopg [9] k (fun kq v9 w' => ∃ (x9_1 : Int), v9 = .int .i64 x9_1 ∧ Aside0 (spec_l12Has.l0 kq a1 l0 (l0.length : Int) x9_1 = some r) ∧ Aside0 (kq ≤ k) ∧ Drawn0 w w')
  case atStart => exact ⟨(0), (by first | rfl | (simp; done) | (simp [*]; done)), H', ⟨Nat.le_refl _⟩, by repeat (first | exact Drawn0.refl _ | apply Drawn0.step)⟩
  case round =>
    clear H'
    try clear p2
    obtain ⟨x9_1, rfl, HA, HK1, ⟨m1, rfl⟩⟩ := hrel
    cases gk with
    | zero => exact absurd HA.out (by simp [spec_l12Has.l0])
    | succ k1 =>
      have H := HA.out
      clear HA
      simp only [spec_l12Has.l0] at H
      by_cases c3 : x9_1 < (l0.length : Int)
      · rw [if_pos c3] at H
        have c3b0 : decide (x9_1 < (l0.length : Int)) = true := decide_eq_true c3
        clear c3
        by_cases c4 : 0 ≤ x9_1
        · rw [if_pos c4] at H
          have c4b0 : decide (0 ≤ x9_1) = true := decide_eq_true c4
          clear c4
          by_cases c5 : x9_1 < (l0.length : Int)
          · rw [if_pos c5] at H
            have c5b0 : decide (x9_1 < (l0.length : Int)) = true := decide_eq_true c5
            clear c5
            by_cases c6 : (rdOf ByteArray.empty l0 x9_1).toList = a1.toList
            · rw [if_pos c6] at H
              have c6b0 : ((rdOf ByteArray.empty l0 x9_1).toList == a1.toList) = true := beq_iff_eq.mpr c6
              have c6b1 : ((rdOf ByteArray.empty l0 x9_1).toList != a1.toList) = false := bne_eq_false_iff_eq.mpr c6
              clear c6
              obtain rfl := Option.some.inj H
              have p683 : 0 ≤ (x9_1 : Int) := of_decide_eq_true (by first | (with_reducible assumption) | assumption)
              have q683 : x9_1 < (l0.length : Int) := of_decide_eq_true (by first | (with_reducible assumption) | assumption)
              obtain ⟨ad683, e683, hx683_0⟩ := Kd.at_string HR0.out x9_1 p683 q683
              cases e683
              replace p683 := eq_true p683
              replace q683 := eq_true q683
              go_wp2
              go_ret
              exact ⟨by first | rfl | (simp; done) | (simp [*]; done), by repeat (first | exact Drawn0.refl _ | apply Drawn0.step)⟩
            · rw [if_neg c6] at H
              have c6b0 : ((rdOf ByteArray.empty l0 x9_1).toList == a1.toList) = false := beq_eq_false_iff_ne.mpr c6
              have c6b1 : ((rdOf ByteArray.empty l0 x9_1).toList != a1.toList) = true := bne_iff_ne.mpr c6
              have H' := Aside0.mk H
              clear H
              have p683 : 0 ≤ (x9_1 : Int) := of_decide_eq_true (by first | (with_reducible assumption) | assumption)
              have q683 : x9_1 < (l0.length : Int) := of_decide_eq_true (by first | (with_reducible assumption) | assumption)
              obtain ⟨ad683, e683, hx683_0⟩ := Kd.at_string HR0.out x9_1 p683 q683
              cases e683
              replace p683 := eq_true p683
              replace q683 := eq_true q683
              go_wp2
              go_roundg k1
              case measure => have := HK1.out; omega
              case rel => exact ⟨(wrap64 (x9_1 + 1)), (by first | rfl | (simp; done) | (simp [*]; done)), H', ⟨by have := HK1.out; omega⟩, by repeat (first | exact Drawn0.refl _ | apply Drawn0.step)⟩
          · rw [if_neg c5] at H
            exact absurd H (by simp)
        · rw [if_neg c4] at H
          exact absurd H (by simp)
      · rw [if_neg c3] at H
        have c3b0 : decide (x9_1 < (l0.length : Int)) = false := decide_eq_false c3
        clear c3
        obtain rfl := Option.some.inj H
        go_wp2
        go_ret
        exact ⟨by first | rfl | (simp; done) | (simp [*]; done), by repeat (first | exact Drawn0.refl _ | apply Drawn0.step)⟩

end Go.Proofs.Ytkaahabgbngodaa.Core
