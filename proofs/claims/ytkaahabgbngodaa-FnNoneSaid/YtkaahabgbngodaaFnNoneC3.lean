/- Contracts of the program's functions as Lean functions, for FnNone, part 3 (printed by wip/mkprint.py over the kit's print.py; what that refuses is written by hand in wip/manual). -/
import Derived.Test.YtkaahabgbngodaaFnNoneW1
import Derived.Test.YtkaahabgbngodaaFnNoneC1
import Derived.Test.YtkaahabgbngodaaFnNoneC2
import Derived.Lib.SliceRun

section
namespace Go.Proofs.Ytkaahabgbngodaa.Core
open Go.RowKit Go.Proofs.YtkaahabgbngodaaW.PrintWords Go.Proofs.YtkaahabgbngodaaW.PrintLast Go.Proofs.YtkaahabgbngodaaW.PrintMore
attribute [local go_sem] max2_int min2_int max_two min_two max_three min_three max_four min_four
set_option linter.unusedVariables false
set_option linter.unusedSimpArgs false
open List renaming setIfInBounds_toArray → lz1, set_cons_zero → lz2, set_cons_succ → lz3
def impl_copyThree.f (a0_0 : Int) (a0_1 : Int) (l0_2 : List (S120)) (l0_3 : List (S120)) (l0_4 : List Int) : Option (Int × Int × (List (S120)) × (List (S120)) × List Int) := (impl_copyItems.f l0_2).bind fun t212 => ((impl_copyItems.f l0_3).bind fun t215 => ((impl_copyInts.f l0_4).bind fun t218 => (some (a0_0, a0_1, t212, t215, t218))))
def impl_copyThree.T1 : Bool × List (List Nat × List Nat) := (true, [([], []), ([0], [0]), ([], []), ([2], [2]), ([], []), ([4], [4]), ([5], [5]), ([], []), ([7], [7]), ([8, 6], [8]), ([], []), ([10], [10]), ([11, 9], [11]), ([1, 3, 6, 9, 12], [1, 3, 6, 9, 12]), ([13, 12, 0, 1, 2, 3, 4, 5, 6, 7, 8, 9, 10, 11, 12, 13], [13])])
def impl_copyThree.B1 : List Nat := [0, 1, 0, 4, 0, 16, 48, 0, 128, 496, 0, 1024, 4080, 8191, 16383]
theorem impl_copyThree.tab1 : rtab .any (opsOf Try.f110 1) = impl_copyThree.T1 := by kernel_rfl
theorem impl_copyThree.bits1 : waitsOk impl_copyThree.T1.2 impl_copyThree.B1 = true := by kernel_rfl
set_option maxHeartbeats 8000000 in
set_option maxRecDepth 100000 in
theorem impl_copyThree.calls (a0_0 : Int) (a0_1 : Int) (A0_2 : Option Addr) (c0_2 : Nat) (l0_2 : List (S120)) (A0_3 : Option Addr) (c0_3 : Nat) (l0_3 : List (S120)) (A0_4 : Option Addr) (c0_4 : Nat) (l0_4 : List Int) (r1 : Int) (r2 : Int) (r3 : List (S120)) (r4 : List (S120)) (r5 : List Int) (w : World) (hr0_2 : Kd.C k120 w A0_2 l0_2.length l0_2) (hc0_2 : l0_2.length ≤ c0_2) (hr0_3 : Kd.C k120 w A0_3 l0_3.length l0_3) (hc0_3 : l0_3.length ≤ c0_3) (hr0_4 : Kd.C (Kd.int .i64) w A0_4 l0_4.length l0_4) (hc0_4 : l0_4.length ≤ c0_4) (h : impl_copyThree.f a0_0 a0_1 l0_2 l0_3 l0_4 = some (r1, r2, r3, r4, r5)) :
    Calls Try.prog 110 #[.agg #[.int .i64 a0_0, .int .i64 a0_1, .slice A0_2 l0_2.length c0_2, .slice A0_3 l0_3.length c0_3, .slice A0_4 l0_4.length c0_4]] w fun e w' => ∃ v2_ v3_ v4_ : Value, e = .returned (.agg #[.int .i64 r1, .int .i64 r2, v2_, v3_, v4_]) ∧ Kd.R k120 120 w' w.heap.size (fun k_ => some k_ ≠ (v3_ : Value).ownBlock) v2_ r3 ∧ Kd.R k120 120 w' w.heap.size (fun k_ => some k_ ≠ (v2_ : Value).ownBlock) v3_ r4 ∧ Kd.R (Kd.int .i64) 3 w' w.heap.size (fun _ => True) v4_ r5 ∧ Below w.heap.size w w' := by
  have hu75 := Try.underlying75
  have HR0_2 := Aside0.mk hr0_2
  have HC0_2 := Aside0.mk hc0_2
  clear hr0_2 hc0_2
  have HR0_3 := Aside0.mk hr0_3
  have HC0_3 := Aside0.mk hc0_3
  clear hr0_3 hc0_3
  have HR0_4 := Aside0.mk hr0_4
  have HC0_4 := Aside0.mk hc0_4
  clear hr0_4 hc0_4
  have HB := Aside0.mk (Below.refl w.heap.size w)
  have H : ((impl_copyItems.f l0_2).bind fun t212 => ((impl_copyItems.f l0_3).bind fun t215 => ((impl_copyInts.f l0_4).bind fun t218 => (some (a0_0, a0_1, t212, t215, t218))))) = some (r1, r2, r3, r4, r5) := h
  clear h
  replace H := Option.bind_eq_some_iff.mp H
  obtain ⟨t212, A20, H⟩ := H
  replace H : ((impl_copyItems.f l0_3).bind fun t215 => ((impl_copyInts.f l0_4).bind fun t218 => (some (a0_0, a0_1, t212, t215, t218)))) = some (r1, r2, r3, r4, r5) := H
  have A2 := Aside0.mk A20
  clear A20
  replace H := Option.bind_eq_some_iff.mp H
  obtain ⟨t215, A30, H⟩ := H
  replace H : ((impl_copyInts.f l0_4).bind fun t218 => (some (a0_0, a0_1, t212, t215, t218))) = some (r1, r2, r3, r4, r5) := H
  have A3 := Aside0.mk A30
  clear A30
  replace H := Option.bind_eq_some_iff.mp H
  obtain ⟨t218, A40, H⟩ := H
  replace H : (some (a0_0, a0_1, t212, t215, t218)) = some (r1, r2, r3, r4, r5) := H
  have A4 := Aside0.mk A40
  clear A40
  simp only [Option.some.injEq, Prod.mk.injEq] at H
  obtain ⟨rfl, rfl, rfl, rfl, rfl⟩ := H
  go_enter Try.func110, Try.ntmps110
  try go_wp2_with (first | ((with_reducible refine gate_dst (N := 1) rfl ?_); refine box_event ?hg (N := 1) ?hd (cs := #[.int .i64 a0_0, .int .i64 a0_1, .slice A0_2 l0_2.length c0_2, .slice A0_3 l0_3.length c0_3, .slice A0_4 l0_4.length c0_4]) (t := 75) ?hr ?_; (case hd => rfl); (case hg => rfl); (case hr => first | (go_simp; done) | (go_simp; rfl)); intro gb210 hg w5 hbox hb; have n0_ := Aside0.mk (below_step (by repeat (first | (with_reducible first | exact HB.out | apply below_alloc | apply pw_below_drewN | apply below_drew1) | exact HB.out)) hb); have n1_ := Aside0.mk (hbox); have n2_ := Aside0.mk ((by rw [hg]; exact (below_size (by repeat (first | (with_reducible first | exact HB.out | apply below_alloc | apply pw_below_drewN | apply below_drew1) | exact HB.out))) : w.heap.size ≤ gb210)); have n3_ := Aside0.mk ((by rw [hg]; exact (below_size (by repeat (first | (with_reducible first | exact HB.out | apply below_alloc | apply pw_below_drewN | apply below_drew1) | exact HB.out))) : w.heap.size ≤ gb210)); clear HB; have HB := n0_; have BK210 := n1_; have GW210 := n2_; have GE210 := n3_; clear n0_ n1_ n2_ n3_; clear hb hbox hg) | ((with_reducible refine gate_dst (N := 2) rfl ?_); refine box_event ?hg (N := 2) ?hd (cs := #[.int .i64 0, .int .i64 0, .slice none 0 0, .slice none 0 0, .slice none 0 0]) (t := 75) ?hr ?_; (case hd => rfl); (case hg => rfl); (case hr => first | (go_simp; done) | (go_simp; rfl)); intro gb211 hg w6 hbox hb; have n0_ := Aside0.mk (blk_below (g := gb210) (o := .cells #[.int .i64 a0_0, .int .i64 a0_1, .slice A0_2 l0_2.length c0_2, .slice A0_3 l0_3.length c0_3, .slice A0_4 l0_4.length c0_4] 75 (0, 0)) (by (with_reducible repeat (first | refine blk_drewN ?_ _ | refine blk_drew ?_ | refine blk_alloc ?_ _)); exact BK210.out) hb); have n1_ := Aside0.mk (below_step (by repeat (first | (with_reducible first | exact HB.out | apply below_alloc | apply pw_below_drewN | apply below_drew1 | refine below_set ?_ GE210.out) | exact HB.out)) hb); have n2_ := Aside0.mk (hbox); have n3_ := Aside0.mk ((by rw [hg]; exact (below_size (by repeat (first | (with_reducible first | exact HB.out | apply below_alloc | apply pw_below_drewN | apply below_drew1 | refine below_set ?_ GE210.out) | exact HB.out))) : w.heap.size ≤ gb211)); have n4_ := Aside0.mk ((by rw [hg]; exact (below_size (by repeat (first | (with_reducible first | exact HB.out | apply below_alloc | apply pw_below_drewN | apply below_drew1 | refine below_set ?_ GE210.out) | exact HB.out))) : w.heap.size ≤ gb211)); have n5_ := Aside0.mk ((by rw [hg]; exact Nat.ne_of_lt (blk_lt (g := gb210) (o := .cells #[.int .i64 a0_0, .int .i64 a0_1, .slice A0_2 l0_2.length c0_2, .slice A0_3 l0_3.length c0_3, .slice A0_4 l0_4.length c0_4] 75 (0, 0)) (by (with_reducible repeat (first | refine blk_drewN ?_ _ | refine blk_drew ?_ | refine blk_alloc ?_ _)); exact BK210.out)) : gb210 ≠ gb211)); have n6_ := Aside0.mk ((by rw [hg]; exact Nat.ne_of_gt (blk_lt (g := gb210) (o := .cells #[.int .i64 a0_0, .int .i64 a0_1, .slice A0_2 l0_2.length c0_2, .slice A0_3 l0_3.length c0_3, .slice A0_4 l0_4.length c0_4] 75 (0, 0)) (by (with_reducible repeat (first | refine blk_drewN ?_ _ | refine blk_drew ?_ | refine blk_alloc ?_ _)); exact BK210.out)) : gb211 ≠ gb210)); clear BK210; clear HB; have BK210 := n0_; have HB := n1_; have BK211 := n2_; have GW211 := n3_; have GE211 := n4_; have NB210_211 := n5_; have NB211_210 := n6_; clear n0_ n1_ n2_ n3_ n4_ n5_ n6_; clear hb hbox hg))
  have n0_ := Aside0.mk (blk_drew BK210.out)
  have n1_ := Aside0.mk (blk_drew BK211.out)
  have n2_ := Aside0.mk (below_drew1 HB.out)
  clear BK210
  clear BK211
  clear HB
  have BK210 := n0_
  have BK211 := n1_
  have HB := n2_
  clear n0_ n1_ n2_
  refine start_ (n := 15) (S := fun w' => w'.cell? ⟨gb210, 0, none⟩ = some (.int .i64 a0_0) ∧ w'.cell? ⟨gb210, 1, none⟩ = some (.int .i64 a0_1) ∧ w'.cell? ⟨gb210, 2, none⟩ = some (.slice A0_2 l0_2.length c0_2) ∧ w'.cell? ⟨gb210, 3, none⟩ = some (.slice A0_3 l0_3.length c0_3) ∧ w'.cell? ⟨gb210, 4, none⟩ = some (.slice A0_4 l0_4.length c0_4)) (ds := []) #[false, false, false, false, false, false, false, false, false, false, false, false, false, false, false] (by kernel_rfl) rfl rfl ⟨(blk_cell BK210.out 0).trans rfl, (blk_cell BK210.out 1).trans rfl, (blk_cell BK210.out 2).trans rfl, (blk_cell BK210.out 3).trans rfl, (blk_cell BK210.out 4).trans rfl⟩ (fun hHeld => ?_); refine with_tabW impl_copyThree.tab1 impl_copyThree.bits1 (fun HT_ HW_ => ?_)
  generalize w6.drew = w7 at BK210 BK211 HB hHeld ⊢
  refine pure_ (i := 0) (N := some 3) (v := ?_) (a' := ?_) #[true, false, false, false, false, false, false, false, false, false, false, false, false, false, false] rfl rfl (any_of HT_.out (by kernel_rfl)) (fun _ _ _ h => h) (Or.inl ⟨by rfl, ?_⟩) ?_ ?_
  rotate_left
  · intro w'
    go_simp
    with_reducible rfl
  rotate_left
  · simp only [Act.put, lz1, lz2, lz3, i64_w, i32_w]
    rfl
  refine pure_ (i := 2) (N := some 5) (v := ?_) (a' := ?_) #[true, false, true, false, false, false, false, false, false, false, false, false, false, false, false] rfl rfl (any_of HT_.out (by kernel_rfl)) (fun _ _ _ h => h) (Or.inl ⟨by rfl, ?_⟩) ?_ ?_
  rotate_left
  · intro w'
    go_simp
    with_reducible rfl
  rotate_left
  · simp only [Act.put, lz1, lz2, lz3, i64_w, i32_w]
    rfl
  refine pure_ (i := 4) (N := some 7) (v := ?_) (a' := ?_) #[true, false, true, false, true, false, false, false, false, false, false, false, false, false, false] rfl rfl (any_of HT_.out (by kernel_rfl)) (fun _ _ _ h => h) (Or.inl ⟨by rfl, ?_⟩) ?_ ?_
  rotate_left
  · intro w'
    go_simp
    with_reducible rfl
  rotate_left
  · simp only [Act.put, lz1, lz2, lz3, i64_w, i32_w]
    rfl
  refine pure_ (i := 7) (N := some 10) (v := ?_) (a' := ?_) #[true, false, true, false, true, false, false, true, false, false, false, false, false, false, false] rfl rfl (any_of HT_.out (by kernel_rfl)) (fun _ _ _ h => h) (Or.inl ⟨by rfl, ?_⟩) ?_ ?_
  rotate_left
  · intro w'
    go_simp
    with_reducible rfl
  rotate_left
  · simp only [Act.put, lz1, lz2, lz3, i64_w, i32_w]
    rfl
  refine pure_ (i := 10) (N := some 13) (v := ?_) (a' := ?_) #[true, false, true, false, true, false, false, true, false, false, true, false, false, false, false] rfl rfl (any_of HT_.out (by kernel_rfl)) (fun _ _ _ h => h) (Or.inl ⟨by rfl, ?_⟩) ?_ ?_
  rotate_left
  · intro w'
    go_simp
    with_reducible rfl
  rotate_left
  · simp only [Act.put, lz1, lz2, lz3, i64_w, i32_w]
    rfl
  refine take_ (i := 1) (N := some 4) (v := ?_) (a' := ?_) #[true, true, true, false, true, false, false, true, false, false, true, false, false, false, false] rfl rfl (take_ofW HT_.out HW_.out (by kernel_rfl)) (fun _ _ _ h => h) (Or.inl ⟨by rfl, ?_⟩) hHeld ?_ ?_
  rotate_left
  · rintro w' ⟨s0, s1, s2, s3, s4⟩
    go_simp
    with_reducible rfl
  rotate_left
  · simp only [Act.put, lz1, lz2, lz3, i64_w, i32_w]
    rfl
  refine take_ (i := 3) (N := some 6) (v := ?_) (a' := ?_) #[true, true, true, true, true, false, false, true, false, false, true, false, false, false, false] rfl rfl (take_ofW HT_.out HW_.out (by kernel_rfl)) (fun _ _ _ h => h) (Or.inl ⟨by rfl, ?_⟩) hHeld ?_ ?_
  rotate_left
  · rintro w' ⟨s0, s1, s2, s3, s4⟩
    go_simp
    with_reducible rfl
  rotate_left
  · simp only [Act.put, lz1, lz2, lz3, i64_w, i32_w]
    rfl
  refine take_ (i := 5) (N := some 8) (v := ?_) (a' := ?_) #[true, true, true, true, true, true, false, true, false, false, true, false, false, false, false] rfl rfl (take_ofW HT_.out HW_.out (by kernel_rfl)) (fun _ _ _ h => h) (Or.inl ⟨by rfl, ?_⟩) hHeld ?_ ?_
  rotate_left
  · rintro w' ⟨s0, s1, s2, s3, s4⟩
    go_simp
    with_reducible rfl
  rotate_left
  · simp only [Act.put, lz1, lz2, lz3, i64_w, i32_w]
    rfl
  refine take_ (i := 8) (N := some 11) (v := ?_) (a' := ?_) #[true, true, true, true, true, true, false, true, true, false, true, false, false, false, false] rfl rfl (take_ofW HT_.out HW_.out (by kernel_rfl)) (fun _ _ _ h => h) (Or.inl ⟨by rfl, ?_⟩) hHeld ?_ ?_
  rotate_left
  · rintro w' ⟨s0, s1, s2, s3, s4⟩
    go_simp
    with_reducible rfl
  rotate_left
  · simp only [Act.put, lz1, lz2, lz3, i64_w, i32_w]
    rfl
  refine take_ (i := 11) (N := some 14) (v := ?_) (a' := ?_) #[true, true, true, true, true, true, false, true, true, false, true, true, false, false, false] rfl rfl (take_ofW HT_.out HW_.out (by kernel_rfl)) (fun _ _ _ h => h) (Or.inl ⟨by rfl, ?_⟩) hHeld ?_ ?_
  rotate_left
  · rintro w' ⟨s0, s1, s2, s3, s4⟩
    go_simp
    with_reducible rfl
  rotate_left
  · simp only [Act.put, lz1, lz2, lz3, i64_w, i32_w]
    rfl
  refine one_ (i := 6) (N := some 9) #[true, true, true, true, true, true, true, true, true, false, true, true, false, false, false] rfl rfl (one_of HT_.out (by kernel_rfl)) (by decide) (fun K hK => ?_)
  refine goes_ Try.func108 (by kernel_rfl) rfl #[.slice A0_2 l0_2.length c0_2] (by rfl) rfl rfl (by (try simp only [List.map_toArray, List.map_cons, List.map_nil]); first | done | rfl | (simp only [List.length_drop, List.length_take]; rfl)) ?_
  with_reducible refine (impl_copyItems.calls _ _ l0_2 t212 _ ?side1 ?side2 A2.out).mono ?_
  (case side1 => repeat (first | exact (Kd.C_below HR0_2.out HB.out) | (with_reducible refine Kd.C_alloc ?_ _) | (with_reducible refine Kd.C_drewN ?_ _) | (with_reducible refine Kd.C_drew ?_)))
  (case side2 => exact HC0_2.out)
  rintro e w8 ⟨v213, rfl, ho0, hb⟩
  refine ⟨_, rfl, ?_⟩
  have n0_ := Aside0.mk (Kd.R_lower ho0 (below_size (by repeat (first | (with_reducible first | exact HB.out | apply below_alloc | apply pw_below_drewN | apply below_drew1 | refine below_set ?_ GE210.out | refine below_set ?_ GE211.out) | exact HB.out))))
  have n1_ := Aside0.mk (blk_below (g := gb210) (o := .cells #[.int .i64 a0_0, .int .i64 a0_1, .slice A0_2 l0_2.length c0_2, .slice A0_3 l0_3.length c0_3, .slice A0_4 l0_4.length c0_4] 75 (0, 0)) (by (with_reducible repeat (first | refine blk_drewN ?_ _ | refine blk_drew ?_ | refine blk_alloc ?_ _)); exact BK210.out) hb)
  have n2_ := Aside0.mk (blk_below (g := gb211) (o := .cells #[.int .i64 0, .int .i64 0, .slice none 0 0, .slice none 0 0, .slice none 0 0] 75 (0, 0)) (by (with_reducible repeat (first | refine blk_drewN ?_ _ | refine blk_drew ?_ | refine blk_alloc ?_ _)); exact BK211.out) hb)
  have n3_ := Aside0.mk (below_step (by repeat (first | (with_reducible first | exact HB.out | apply below_alloc | apply pw_below_drewN | apply below_drew1 | refine below_set ?_ GE210.out | refine below_set ?_ GE211.out) | exact HB.out)) hb)
  clear BK210
  clear BK211
  clear HB
  have HO214 := n0_
  have BK210 := n1_
  have BK211 := n2_
  have HB := n3_
  clear n0_ n1_ n2_ n3_
  (try clear hb)
  (try clear hb2)
  (try clear hk)
  (try clear hi)
  (try clear ho0)
  refine hK.out _ _ ⟨(blk_cell BK210.out 0).trans rfl, (blk_cell BK210.out 1).trans rfl, (blk_cell BK210.out 2).trans rfl, (blk_cell BK210.out 3).trans rfl, (blk_cell BK210.out 4).trans rfl⟩ (fun hHeld => ?_)
  clear hK K
  refine norm_ (a' := ?_) ?_ ?_
  rotate_left
  · show Act.put _ (some 9) _ = _
    simp only [Act.put, lz1, lz2, lz3, i64_w, i32_w]
    rfl
  refine one_ (i := 9) (N := some 12) #[true, true, true, true, true, true, true, true, true, true, true, true, false, false, false] rfl rfl (one_of HT_.out (by kernel_rfl)) (by decide) (fun K hK => ?_)
  refine goes_ Try.func108 (by kernel_rfl) rfl #[.slice A0_3 l0_3.length c0_3] (by rfl) rfl rfl (by (try simp only [List.map_toArray, List.map_cons, List.map_nil]); first | done | rfl | (simp only [List.length_drop, List.length_take]; rfl)) ?_
  with_reducible refine (impl_copyItems.calls _ _ l0_3 t215 _ ?side1 ?side2 A3.out).mono ?_
  (case side1 => repeat (first | exact (Kd.C_below HR0_3.out HB.out) | (with_reducible refine Kd.C_alloc ?_ _) | (with_reducible refine Kd.C_drewN ?_ _) | (with_reducible refine Kd.C_drew ?_)))
  (case side2 => exact HC0_3.out)
  rintro e w9 ⟨v216, rfl, ho0, hb⟩
  refine ⟨_, rfl, ?_⟩
  have n0_ := Aside0.mk (Kd.R_elder' (by (with_reducible repeat (first | apply Kd.R_alloc | apply Kd.R_drewN | apply Kd.R_drew)); exact HO214.out) (Kd.R_base ho0) hb)
  have n1_ := Aside0.mk (Kd.R_lower (Kd.R_new' ho0 (Kd.R_lt (by (with_reducible repeat (first | apply Kd.R_alloc | apply Kd.R_drewN | apply Kd.R_drew)); exact HO214.out))) (below_size (by repeat (first | (with_reducible first | exact HB.out | apply below_alloc | apply pw_below_drewN | apply below_drew1 | refine below_set ?_ GE210.out | refine below_set ?_ GE211.out) | exact HB.out))))
  have n2_ := Aside0.mk (blk_below (g := gb210) (o := .cells #[.int .i64 a0_0, .int .i64 a0_1, .slice A0_2 l0_2.length c0_2, .slice A0_3 l0_3.length c0_3, .slice A0_4 l0_4.length c0_4] 75 (0, 0)) (by (with_reducible repeat (first | refine blk_drewN ?_ _ | refine blk_drew ?_ | refine blk_alloc ?_ _)); exact BK210.out) hb)
  have n3_ := Aside0.mk (blk_below (g := gb211) (o := .cells #[.int .i64 0, .int .i64 0, .slice none 0 0, .slice none 0 0, .slice none 0 0] 75 (0, 0)) (by (with_reducible repeat (first | refine blk_drewN ?_ _ | refine blk_drew ?_ | refine blk_alloc ?_ _)); exact BK211.out) hb)
  have n4_ := Aside0.mk (below_step (by repeat (first | (with_reducible first | exact HB.out | apply below_alloc | apply pw_below_drewN | apply below_drew1 | refine below_set ?_ GE210.out | refine below_set ?_ GE211.out) | exact HB.out)) hb)
  clear HO214
  clear BK210
  clear BK211
  clear HB
  have HO214 := n0_
  have HO217 := n1_
  have BK210 := n2_
  have BK211 := n3_
  have HB := n4_
  clear n0_ n1_ n2_ n3_ n4_
  (try clear hb)
  (try clear hb2)
  (try clear hk)
  (try clear hi)
  (try clear ho0)
  refine hK.out _ _ ⟨(blk_cell BK210.out 0).trans rfl, (blk_cell BK210.out 1).trans rfl, (blk_cell BK210.out 2).trans rfl, (blk_cell BK210.out 3).trans rfl, (blk_cell BK210.out 4).trans rfl⟩ (fun hHeld => ?_)
  clear hK K
  refine norm_ (a' := ?_) ?_ ?_
  rotate_left
  · show Act.put _ (some 12) _ = _
    simp only [Act.put, lz1, lz2, lz3, i64_w, i32_w]
    rfl
  refine one_ (i := 12) (N := some 15) #[true, true, true, true, true, true, true, true, true, true, true, true, true, false, false] rfl rfl (one_of HT_.out (by kernel_rfl)) (by decide) (fun K hK => ?_)
  refine goes_ Try.func166 (by kernel_rfl) rfl #[.slice A0_4 l0_4.length c0_4] (by rfl) rfl rfl (by (try simp only [List.map_toArray, List.map_cons, List.map_nil]); first | done | rfl | (simp only [List.length_drop, List.length_take]; rfl)) ?_
  with_reducible refine (impl_copyInts.calls _ _ l0_4 t218 _ ?side1 ?side2 A4.out).mono ?_
  (case side1 => repeat (first | exact (Kd.C_below HR0_4.out HB.out) | (with_reducible refine Kd.C_alloc ?_ _) | (with_reducible refine Kd.C_drewN ?_ _) | (with_reducible refine Kd.C_drew ?_)))
  (case side2 => exact HC0_4.out)
  rintro e w10 ⟨v219, rfl, ho0, hb⟩
  refine ⟨_, rfl, ?_⟩
  have n0_ := Aside0.mk (Kd.R_below (by (with_reducible repeat (first | apply Kd.R_alloc | apply Kd.R_drewN | apply Kd.R_drew)); exact HO214.out) hb)
  have n1_ := Aside0.mk (Kd.R_below (by (with_reducible repeat (first | apply Kd.R_alloc | apply Kd.R_drewN | apply Kd.R_drew)); exact HO217.out) hb)
  have n2_ := Aside0.mk (Kd.R_lower ho0 (below_size (by repeat (first | (with_reducible first | exact HB.out | apply below_alloc | apply pw_below_drewN | apply below_drew1 | refine below_set ?_ GE210.out | refine below_set ?_ GE211.out) | exact HB.out))))
  have n3_ := Aside0.mk (blk_below (g := gb210) (o := .cells #[.int .i64 a0_0, .int .i64 a0_1, .slice A0_2 l0_2.length c0_2, .slice A0_3 l0_3.length c0_3, .slice A0_4 l0_4.length c0_4] 75 (0, 0)) (by (with_reducible repeat (first | refine blk_drewN ?_ _ | refine blk_drew ?_ | refine blk_alloc ?_ _)); exact BK210.out) hb)
  have n4_ := Aside0.mk (blk_below (g := gb211) (o := .cells #[.int .i64 0, .int .i64 0, .slice none 0 0, .slice none 0 0, .slice none 0 0] 75 (0, 0)) (by (with_reducible repeat (first | refine blk_drewN ?_ _ | refine blk_drew ?_ | refine blk_alloc ?_ _)); exact BK211.out) hb)
  have n5_ := Aside0.mk (below_step (by repeat (first | (with_reducible first | exact HB.out | apply below_alloc | apply pw_below_drewN | apply below_drew1 | refine below_set ?_ GE210.out | refine below_set ?_ GE211.out) | exact HB.out)) hb)
  clear HO214
  clear HO217
  clear BK210
  clear BK211
  clear HB
  have HO214 := n0_
  have HO217 := n1_
  have HO220 := n2_
  have BK210 := n3_
  have BK211 := n4_
  have HB := n5_
  clear n0_ n1_ n2_ n3_ n4_ n5_
  (try clear hb)
  (try clear hb2)
  (try clear hk)
  (try clear hi)
  (try clear ho0)
  obtain ⟨Ao11, co11, eo11⟩ := Kd.R_slice HO220.out
  (first | subst eo11 | (injection eo11 with f1_ f2_ f3_; have f4_ := f1_.symm; have f5_ := f3_.symm; clear f1_ f2_ f3_; subst f4_; subst f5_))
  obtain ⟨Ao12, co12, eo12⟩ := Kd.R_slice HO217.out
  (first | subst eo12 | (injection eo12 with f1_ f2_ f3_; have f4_ := f1_.symm; have f5_ := f3_.symm; clear f1_ f2_ f3_; subst f4_; subst f5_))
  obtain ⟨Ao13, co13, eo13⟩ := Kd.R_slice HO214.out
  (first | subst eo13 | (injection eo13 with f1_ f2_ f3_; have f4_ := f1_.symm; have f5_ := f3_.symm; clear f1_ f2_ f3_; subst f4_; subst f5_))
  refine hK.out _ _ ⟨(blk_cell BK210.out 0).trans rfl, (blk_cell BK210.out 1).trans rfl, (blk_cell BK210.out 2).trans rfl, (blk_cell BK210.out 3).trans rfl, (blk_cell BK210.out 4).trans rfl⟩ (fun hHeld => ?_)
  clear hK K
  refine norm_ (a' := ?_) ?_ ?_
  rotate_left
  · show Act.put _ (some 15) _ = _
    simp only [Act.put, lz1, lz2, lz3, i64_w, i32_w]
    rfl
  refine pure_ (i := 13) (N := some 16) (v := ?_) (a' := ?_) #[true, true, true, true, true, true, true, true, true, true, true, true, true, true, false] rfl rfl (any_of HT_.out (by kernel_rfl)) (fun _ _ _ h => h) (Or.inl ⟨by rfl, ?_⟩) ?_ ?_
  rotate_left
  · intro w'
    go_simp
    with_reducible rfl
  rotate_left
  · simp only [Act.put, lz1, lz2, lz3, i64_w, i32_w]
    rfl
  refine one_ (i := 14) (N := none) #[true, true, true, true, true, true, true, true, true, true, true, true, true, true, true] rfl rfl (one_of HT_.out (by kernel_rfl)) (by decide) (fun K hK => ?_)
  have hs14 : w10.cell? ⟨gb211, 0, none⟩ = some (.int .i64 0) := (blk_cell BK211.out 0).trans rfl
  have hfs14 := blk_frozen BK211.out 0
  have hns14_0 := NB210_211.out
  have hms14_0 := NB211_210.out
  have hs15 : w10.cell? ⟨gb211, 1, none⟩ = some (.int .i64 0) := (blk_cell BK211.out 1).trans rfl
  have hfs15 := blk_frozen BK211.out 1
  have hns15_0 := NB210_211.out
  have hms15_0 := NB211_210.out
  have hs16 : w10.cell? ⟨gb211, 2, none⟩ = some (.slice none 0 0) := (blk_cell BK211.out 2).trans rfl
  have hfs16 := blk_frozen BK211.out 2
  have hns16_0 := NB210_211.out
  have hms16_0 := NB211_210.out
  have hs17 : w10.cell? ⟨gb211, 3, none⟩ = some (.slice none 0 0) := (blk_cell BK211.out 3).trans rfl
  have hfs17 := blk_frozen BK211.out 3
  have hns17_0 := NB210_211.out
  have hms17_0 := NB211_210.out
  have hs18 : w10.cell? ⟨gb211, 4, none⟩ = some (.slice none 0 0) := (blk_cell BK211.out 4).trans rfl
  have hfs18 := blk_frozen BK211.out 4
  have hns18_0 := NB210_211.out
  have hms18_0 := NB211_210.out
  refine skip_ (w1 := ?_) (by rfl) rfl ?_ ?_
  rotate_left
  · go_simp
    rfl
  refine hK.out _ _ ⟨((cell_far (p := ⟨gb211, _, none⟩) NB210_211.out _).trans (((cell_far (p := ⟨gb211, _, none⟩) NB210_211.out _).trans (((cell_far (p := ⟨gb211, _, none⟩) NB210_211.out _).trans (((cell_far (p := ⟨gb211, _, none⟩) NB210_211.out _).trans (((cell_far (p := ⟨gb211, _, none⟩) NB210_211.out _).trans (hHeld.1)))))))))), ((cell_far (p := ⟨gb211, _, none⟩) NB210_211.out _).trans (((cell_far (p := ⟨gb211, _, none⟩) NB210_211.out _).trans (((cell_far (p := ⟨gb211, _, none⟩) NB210_211.out _).trans (((cell_far (p := ⟨gb211, _, none⟩) NB210_211.out _).trans (((cell_far (p := ⟨gb211, _, none⟩) NB210_211.out _).trans (hHeld.2.1)))))))))), ((cell_far (p := ⟨gb211, _, none⟩) NB210_211.out _).trans (((cell_far (p := ⟨gb211, _, none⟩) NB210_211.out _).trans (((cell_far (p := ⟨gb211, _, none⟩) NB210_211.out _).trans (((cell_far (p := ⟨gb211, _, none⟩) NB210_211.out _).trans (((cell_far (p := ⟨gb211, _, none⟩) NB210_211.out _).trans (hHeld.2.2.1)))))))))), ((cell_far (p := ⟨gb211, _, none⟩) NB210_211.out _).trans (((cell_far (p := ⟨gb211, _, none⟩) NB210_211.out _).trans (((cell_far (p := ⟨gb211, _, none⟩) NB210_211.out _).trans (((cell_far (p := ⟨gb211, _, none⟩) NB210_211.out _).trans (((cell_far (p := ⟨gb211, _, none⟩) NB210_211.out _).trans (hHeld.2.2.2.1)))))))))), ((cell_far (p := ⟨gb211, _, none⟩) NB210_211.out _).trans (((cell_far (p := ⟨gb211, _, none⟩) NB210_211.out _).trans (((cell_far (p := ⟨gb211, _, none⟩) NB210_211.out _).trans (((cell_far (p := ⟨gb211, _, none⟩) NB210_211.out _).trans (((cell_far (p := ⟨gb211, _, none⟩) NB210_211.out _).trans (hHeld.2.2.2.2))))))))))⟩ (fun hHeld => ?_)
  clear hK K
  refine done_ (done_of HT_.out (by kernel_rfl)) ?_
  try go_wp2
  refine bodyPost_ret (results_cell_row rfl _ _ gb211 75 #[.int .i64 a0_0, .int .i64 a0_1, .slice Ao13 t212.length co13, .slice Ao12 t215.length co12, .slice Ao11 t218.length co11] (0, 0) _ rfl (by (with_reducible repeat (first | refine blk_drewN ?_ _ | refine blk_drew ?_ | refine blk_alloc ?_ _)); refine blk_put (cs := #[.int .i64 a0_0, .int .i64 a0_1, .slice Ao13 t212.length co13, .slice Ao12 t215.length co12, .slice none 0 0]) ?_ 4 _ rfl; (with_reducible repeat (first | refine blk_drewN ?_ _ | refine blk_drew ?_ | refine blk_alloc ?_ _)); refine blk_put (cs := #[.int .i64 a0_0, .int .i64 a0_1, .slice Ao13 t212.length co13, .slice none 0 0, .slice none 0 0]) ?_ 3 _ rfl; (with_reducible repeat (first | refine blk_drewN ?_ _ | refine blk_drew ?_ | refine blk_alloc ?_ _)); refine blk_put (cs := #[.int .i64 a0_0, .int .i64 a0_1, .slice none 0 0, .slice none 0 0, .slice none 0 0]) ?_ 2 _ rfl; (with_reducible repeat (first | refine blk_drewN ?_ _ | refine blk_drew ?_ | refine blk_alloc ?_ _)); refine blk_put (cs := #[.int .i64 a0_0, .int .i64 0, .slice none 0 0, .slice none 0 0, .slice none 0 0]) ?_ 1 _ rfl; (with_reducible repeat (first | refine blk_drewN ?_ _ | refine blk_drew ?_ | refine blk_alloc ?_ _)); refine blk_put (cs := #[.int .i64 0, .int .i64 0, .slice none 0 0, .slice none 0 0, .slice none 0 0]) ?_ 0 _ rfl; (with_reducible repeat (first | refine blk_drewN ?_ _ | refine blk_drew ?_ | refine blk_alloc ?_ _)); exact BK211.out) Try.underlying75 rfl (by kernel_rfl)) rfl ?_
  exact ⟨_, _, _, by first | rfl | (simp [errW_none, errW_some] <;> rfl) | (simp [*, errW_none, errW_some] <;> rfl), by (with_reducible repeat (first | apply Kd.R_alloc | apply Kd.R_drewN | apply Kd.R_drew)); exact Kd.R_mono (Kd.R_far (p := ⟨gb211, 4, none⟩) (Kd.R_far (p := ⟨gb211, 3, none⟩) (Kd.R_far (p := ⟨gb211, 2, none⟩) (Kd.R_far (p := ⟨gb211, 1, none⟩) (Kd.R_far (p := ⟨gb211, 0, none⟩) (Kd.R_types HO214.out BK211.out (by decide)) (fun _ hk => hk.2) (.int .i64 a0_0)) (fun _ hk => hk.2) (.int .i64 a0_1)) (fun _ hk => hk.2) (.slice Ao13 t212.length co13)) (fun _ hk => hk.2) (.slice Ao12 t215.length co12)) (fun _ hk => hk.2) (.slice Ao11 t218.length co11)) (fun _ hk => hk.1.2), by (with_reducible repeat (first | apply Kd.R_alloc | apply Kd.R_drewN | apply Kd.R_drew)); exact Kd.R_mono (Kd.R_far (p := ⟨gb211, 4, none⟩) (Kd.R_far (p := ⟨gb211, 3, none⟩) (Kd.R_far (p := ⟨gb211, 2, none⟩) (Kd.R_far (p := ⟨gb211, 1, none⟩) (Kd.R_far (p := ⟨gb211, 0, none⟩) (Kd.R_types HO217.out BK211.out (by decide)) (fun _ hk => hk.2) (.int .i64 a0_0)) (fun _ hk => hk.2) (.int .i64 a0_1)) (fun _ hk => hk.2) (.slice Ao13 t212.length co13)) (fun _ hk => hk.2) (.slice Ao12 t215.length co12)) (fun _ hk => hk.2) (.slice Ao11 t218.length co11)) (fun _ hk => hk.1.2), by (with_reducible repeat (first | apply Kd.R_alloc | apply Kd.R_drewN | apply Kd.R_drew)); exact Kd.R_mono (Kd.R_far (p := ⟨gb211, 4, none⟩) (Kd.R_far (p := ⟨gb211, 3, none⟩) (Kd.R_far (p := ⟨gb211, 2, none⟩) (Kd.R_far (p := ⟨gb211, 1, none⟩) (Kd.R_far (p := ⟨gb211, 0, none⟩) (Kd.R_types HO220.out BK211.out (by decide)) (fun _ hk => hk.2) (.int .i64 a0_0)) (fun _ hk => hk.2) (.int .i64 a0_1)) (fun _ hk => hk.2) (.slice Ao13 t212.length co13)) (fun _ hk => hk.2) (.slice Ao12 t215.length co12)) (fun _ hk => hk.2) (.slice Ao11 t218.length co11)) (fun _ hk => trivial), by repeat (first | (with_reducible first | exact HB.out | apply below_alloc | apply pw_below_drewN | apply below_drew1 | refine below_set ?_ GE210.out | refine below_set ?_ GE211.out) | exact HB.out)⟩
theorem put5 {w : World} {g t : Nat} {a b c d e : Value} (h : w.heap[g]? = some (.cells #[a, b, c, d, e] t (0, 0))) (x y z u v : Value) : (((((w.setCell ⟨g, 0, none⟩ x).setCell ⟨g, 1, none⟩ y).setCell ⟨g, 2, none⟩ z).setCell ⟨g, 3, none⟩ u).setCell ⟨g, 4, none⟩ v).heap[g]? = some (.cells #[x, y, z, u, v] t (0, 0)) :=
  blk_put (blk_put (blk_put (blk_put (blk_put h 0 x rfl) 1 y rfl) 2 z rfl) 3 u rfl) 4 v rfl
theorem keep5 (w : World) (g : Nat) (x y z u v : Value) : KeepBut w (((((w.setCell ⟨g, 0, none⟩ x).setCell ⟨g, 1, none⟩ y).setCell ⟨g, 2, none⟩ z).setCell ⟨g, 3, none⟩ u).setCell ⟨g, 4, none⟩ v) g none :=
  (((((KeepBut.refl w g none).set_ 0 x).set_ 1 y).set_ 2 z).set_ 3 u).set_ 4 v
theorem below_put5 {B : Nat} {w0 w : World} {g : Nat} (h : Below B w0 w) (hg : B ≤ g) (x y z u v : Value) : Below B w0 (((((w.setCell ⟨g, 0, none⟩ x).setCell ⟨g, 1, none⟩ y).setCell ⟨g, 2, none⟩ z).setCell ⟨g, 3, none⟩ u).setCell ⟨g, 4, none⟩ v) :=
  ((((h.setCell hg x).setCell hg y).setCell hg z).setCell hg u).setCell hg v
theorem far_cell5 {w : World} {g : Nat} {p : Addr} {a : Option Value} (h : w.cell? p = a) (hne : p.block ≠ g) (x y z u v : Value) : (((((w.setCell ⟨g, 0, none⟩ x).setCell ⟨g, 1, none⟩ y).setCell ⟨g, 2, none⟩ z).setCell ⟨g, 3, none⟩ u).setCell ⟨g, 4, none⟩ v).cell? p = a := by
  rw [← h]
  refine World.cell?_of_block ?_
  rw [Below.heap_setCell _ _ _ _ hne, Below.heap_setCell _ _ _ _ hne, Below.heap_setCell _ _ _ _ hne, Below.heap_setCell _ _ _ _ hne, Below.heap_setCell _ _ _ _ hne]
theorem R_keepG {α : Type} {d : Kd α} {e base : Nat} {w w1 : World} {ok : Nat → Prop} {V : Value} {xs : List α} {g t : Nat} {cs : Array Value} (h : d.R e w base ok V xs) (hk : KeepBut w w1 g none) (hb : w.heap[g]? = some (.cells cs t (0, 0))) (ht : ∀ q, q ∈ e :: d.E → q ≠ t) : d.R e w1 base ok V xs := by
  refine Kd.R_mono (Kd.R_keep (Kd.R_bound h) hk (fun k hk' he => ?_)) (fun _ hk' => hk'.1)
  obtain ⟨_, _, hlt, q, hq, cells, hc⟩ := hk'
  subst he
  rw [hb] at hc
  injection hc with hc
  injection hc with _ hc
  exact ht q hq hc.symm
def itemPtr (A2 : Option Addr) (s : List S120) (A3 : Option Addr) (m : List S120) (key : ByteArray) : Option Addr :=
  if 0 ≤ ixOf s key then A2.map (·.add ((ixOf s key).toNat * 3)) else if 0 ≤ ixOf m key then A3.map (·.add ((ixOf m key).toNat * 3)) else none
theorem ixOf_ge (l : List S120) (key : ByteArray) : -1 ≤ ixOf l key ∧ ixOf l key < l.length := by
  by_cases h : ixOf l key < 0
  · refine ⟨?_, by omega⟩
    unfold ixOf
    split <;> omega
  · obtain ⟨i, hi, hl, _⟩ := ixOf_pos l key h
    omega
set_option maxHeartbeats 8000000 in
set_option maxRecDepth 100000 in
theorem item.calls (g : Nat) (cp mo : Int) (A2 : Option Addr) (c2 : Nat) (s : List S120) (A3 : Option Addr) (c3 : Nat) (m : List S120) (V4 : Value) (key : ByteArray) (w : World) (hb : w.heap[g]? = some (.cells #[.int .i64 cp, .int .i64 mo, .slice A2 s.length c2, .slice A3 m.length c3, V4] 75 (0, 0)))
    (hC2 : Kd.C k120 w A2 s.length s) (hc2 : s.length ≤ c2) (hC3 : Kd.C k120 w A3 m.length m) (hc3 : m.length ≤ c3) :
    Calls Try.prog 111 #[.pointer (some ⟨g, 0, none⟩), .string key] w fun e w' => e = .returned (.pointer (itemPtr A2 s A3 m key)) ∧ Below w.heap.size w w' := by
  obtain ⟨⟨p0, p1, p2, p3, p4⟩, _⟩ := cells5 hb
  have HB := Aside0.mk hb
  have HC2 := Aside0.mk hC2
  have HC3 := Aside0.mk hC3
  have HL2 := Aside0.mk hc2
  have HL3 := Aside0.mk hc3
  have g2 := ixOf_ge s key
  have g3 := ixOf_ge m key
  obtain ⟨i2, hi2⟩ : ∃ i2, i2 = ixOf s key := ⟨_, rfl⟩
  obtain ⟨i3, hi3⟩ : ∃ i3, i3 = ixOf m key := ⟨_, rfl⟩
  have HI2 := Aside0.mk hi2
  have HI3 := Aside0.mk hi3
  have HS2 : Aside0 (impl_itemAt.f s key = some i2) := ⟨by unfold impl_itemAt.f; rw [hi2]⟩
  have HS3 : Aside0 (impl_itemAt.f m key = some i3) := ⟨by unfold impl_itemAt.f; rw [hi3]⟩
  rw [← hi2] at g2
  rw [← hi3] at g3
  clear p0 p1 p4 hb hC2 hC3 hc2 hc3 hi2 hi3
  by_cases h2 : 0 ≤ i2
  · have d2 : decide (0 ≤ i2) = true := decide_eq_true h2
    have hs : 0 < s.length := by omega
    obtain ⟨ad, rfl, _⟩ := HC2.out.2.2 (by omega)
    obtain ⟨i, rfl⟩ := Int.eq_ofNat_of_zero_le h2
    have q1 : ((i : Int) < (s.length : Int)) = True := eq_true g2.2
    have q2 : (i < s.length) = True := eq_true (by omega)
    have hit : itemPtr (some ad) s A3 m key = some (ad.add (i * 3)) := by
      unfold itemPtr
      rw [← HI2.out, if_pos h2]
      rfl
    have HIT := Aside0.mk hit
    clear hit h2 g2 g3 hs
    go_enter Try.func111, Try.ntmps111
    go_wp2_with (first | (go_at_call 80; (with_reducible refine (impl_itemAt.calls (some ad) c2 s key (i : Int) _ HC2.out HL2.out HS2.out).mono ?_); rintro e w1 ⟨rfl, hb⟩; have HB1 := Aside0.mk hb; replace p2 := pw_cell_below hb p2; clear hb))
    go_ret
    exact ⟨by rw [HIT.out]; rfl, HB1.out⟩
  · have d2 : decide (0 ≤ i2) = false := decide_eq_false h2
    by_cases h3 : 0 ≤ i3
    · have d3 : decide (0 ≤ i3) = true := decide_eq_true h3
      obtain ⟨ad, rfl, _⟩ := HC3.out.2.2 (by omega)
      obtain ⟨i, rfl⟩ := Int.eq_ofNat_of_zero_le h3
      have q1 : ((i : Int) < (m.length : Int)) = True := eq_true g3.2
      have q2 : (i < m.length) = True := eq_true (by omega)
      have hit : itemPtr A2 s (some ad) m key = some (ad.add (i * 3)) := by
        unfold itemPtr
        rw [← HI2.out, ← HI3.out, if_neg h2, if_pos h3]
        rfl
      have HIT := Aside0.mk hit
      clear hit h2 h3 g2 g3
      go_enter Try.func111, Try.ntmps111
      go_wp2_with (first | (go_at_call 80; (with_reducible refine (impl_itemAt.calls A2 c2 s key i2 _ HC2.out HL2.out HS2.out).mono ?_); rintro e w1 ⟨rfl, hb⟩; have HB1 := Aside0.mk hb; replace p2 := pw_cell_below hb p2; replace p3 := pw_cell_below hb p3; clear hb) | (go_at_call 80; (with_reducible refine (impl_itemAt.calls (some ad) c3 m key (i : Int) _ (Kd.C_below HC3.out HB1.out) HL3.out HS3.out).mono ?_); rintro e w2 ⟨rfl, hb⟩; have HB2 := Aside0.mk (below_step HB1.out hb); replace p3 := pw_cell_below hb p3; clear hb))
      go_ret
      exact ⟨by rw [HIT.out]; rfl, HB2.out⟩
    · have d3 : decide (0 ≤ i3) = false := decide_eq_false h3
      have hit : itemPtr A2 s A3 m key = none := by
        unfold itemPtr
        rw [← HI2.out, ← HI3.out, if_neg h2, if_neg h3]
      have HIT := Aside0.mk hit
      clear hit h2 h3 g2 g3
      go_enter Try.func111, Try.ntmps111
      go_wp2_with (first | (go_at_call 80; (with_reducible refine (impl_itemAt.calls A2 c2 s key i2 _ HC2.out HL2.out HS2.out).mono ?_); rintro e w1 ⟨rfl, hb⟩; have HB1 := Aside0.mk hb; replace p2 := pw_cell_below hb p2; replace p3 := pw_cell_below hb p3; clear hb) | (go_at_call 80; (with_reducible refine (impl_itemAt.calls A3 c3 m key i3 _ (Kd.C_below HC3.out HB1.out) HL3.out HS3.out).mono ?_); rintro e w2 ⟨rfl, hb⟩; have HB2 := Aside0.mk (below_step HB1.out hb); replace p3 := pw_cell_below hb p3; clear hb))
      go_ret
      exact ⟨by rw [HIT.out]; rfl, HB2.out⟩
def bump (x : S120) : S120 := ⟨x.f0, x.f1, mn 3 (wrap64 (x.f2 + 1))⟩
def impl_Get.f (k : Nat) (a0_0 a0_1 : Int) (l0_2 l0_3 : List S120) (l0_4 : List Int) (a1 : ByteArray) : Option (Int × Int × List S120 × List S120 × List Int × ByteArray × Bool) :=
  (impl_ThreeOk.f k a0_0 a0_1 l0_2 l0_3 l0_4).bind fun ok =>
    if ok = true then
      (if 0 ≤ ixOf l0_2 a1 then some (a0_0, a0_1, l0_2.set (ixOf l0_2 a1).toNat (bump (rd_T120 l0_2 (ixOf l0_2 a1))), l0_3, l0_4, (rd_T120 l0_2 (ixOf l0_2 a1)).f1, true)
       else if 0 ≤ ixOf l0_3 a1 then some (a0_0, a0_1, l0_2, l0_3.set (ixOf l0_3 a1).toNat (bump (rd_T120 l0_3 (ixOf l0_3 a1))), l0_4, (rd_T120 l0_3 (ixOf l0_3 a1)).f1, true)
       else some (a0_0, a0_1, l0_2, l0_3, l0_4, (⟨#[]⟩ : ByteArray), false))
    else some (0, 0, [], [], [], (⟨#[]⟩ : ByteArray), false)
theorem impl_Get.mono : ∀ a0 a1 a2 a3 a4 a5 k, LeO (impl_Get.f k a0 a1 a2 a3 a4 a5) (impl_Get.f (k + 1) a0 a1 a2 a3 a4 a5) := by
  intro a0 a1 a2 a3 a4 a5 k
  unfold impl_Get.f
  exact LeO.bind (impl_ThreeOk.mono _ _ _ _ _ _) (fun _ => LeO.refl _)
theorem ThreeOk_len {k : Nat} {a0_0 a0_1 : Int} {l0_2 l0_3 : List S120} {l0_4 : List Int} {r : Bool} (h : impl_ThreeOk.f k a0_0 a0_1 l0_2 l0_3 l0_4 = some r) : l0_2.length < 1000000 ∧ l0_3.length < 1000000 ∧ l0_4.length < 1000000 := by
  unfold impl_ThreeOk.f at h
  by_cases hl : l0_2.length < 1000000 ∧ l0_3.length < 1000000 ∧ l0_4.length < 1000000
  · exact hl
  · rw [if_neg hl] at h
    exact absurd h (by simp)
set_option maxHeartbeats 8000000 in
set_option maxRecDepth 100000 in
theorem impl_Get.no (k : Nat) (a0_0 a0_1 : Int) (A0_2 : Option Addr) (c0_2 : Nat) (l0_2 : List S120) (A0_3 : Option Addr) (c0_3 : Nat) (l0_3 : List S120) (A0_4 : Option Addr) (c0_4 : Nat) (l0_4 : List Int) (a1 : ByteArray) (w : World) (hr0_2 : Kd.C k120 w A0_2 l0_2.length l0_2) (hc0_2 : l0_2.length ≤ c0_2) (hr0_3 : Kd.C k120 w A0_3 l0_3.length l0_3) (hc0_3 : l0_3.length ≤ c0_3) (hr0_4 : Kd.C (Kd.int .i64) w A0_4 l0_4.length l0_4) (hc0_4 : l0_4.length ≤ c0_4) (hok : impl_ThreeOk.f k a0_0 a0_1 l0_2 l0_3 l0_4 = some false) :
    Calls Try.prog 50 #[.agg #[.int .i64 a0_0, .int .i64 a0_1, .slice A0_2 l0_2.length c0_2, .slice A0_3 l0_3.length c0_3, .slice A0_4 l0_4.length c0_4], .string a1] w fun e w' => e = .returned (.tuple #[.agg #[.int .i64 0, .int .i64 0, .slice none 0 0, .slice none 0 0, .slice none 0 0], .string ⟨#[]⟩, .bool false]) ∧ Below w.heap.size w w' := by
  have HR2 := Aside0.mk hr0_2
  have HC2 := Aside0.mk hc0_2
  have HR3 := Aside0.mk hr0_3
  have HC3 := Aside0.mk hc0_3
  have HR4 := Aside0.mk hr0_4
  have HC4 := Aside0.mk hc0_4
  clear hr0_2 hc0_2 hr0_3 hc0_3 hr0_4 hc0_4
  have OK := Aside0.mk hok
  clear hok
  have BK1 := Aside0.mk (blk_alloc (blk_new w (.cells #[.int .i64 a0_0, .int .i64 a0_1, .slice A0_2 l0_2.length c0_2, .slice A0_3 l0_3.length c0_3, .slice A0_4 l0_4.length c0_4] 75)) (.cells #[.int .i64 0, .int .i64 0, .slice none 0 0, .slice none 0 0, .slice none 0 0] 75))
  have BK4 := Aside0.mk (show ((w.alloc (.cells #[.int .i64 a0_0, .int .i64 a0_1, .slice A0_2 l0_2.length c0_2, .slice A0_3 l0_3.length c0_3, .slice A0_4 l0_4.length c0_4] 75)).alloc (.cells #[.int .i64 0, .int .i64 0, .slice none 0 0, .slice none 0 0, .slice none 0 0] 75)).heap[w.heap.size + 1]? = some (.cells #[.int .i64 0, .int .i64 0, .slice none 0 0, .slice none 0 0, .slice none 0 0] 75 (0, 0)) by have z := blk_new (w.alloc (.cells #[.int .i64 a0_0, .int .i64 a0_1, .slice A0_2 l0_2.length c0_2, .slice A0_3 l0_3.length c0_3, .slice A0_4 l0_4.length c0_4] 75)) (.cells #[.int .i64 0, .int .i64 0, .slice none 0 0, .slice none 0 0, .slice none 0 0] 75); simpa using z)
  have BKB := Aside0.mk (((Below.refl w.heap.size w).alloc (Nat.le_refl _) (.cells #[.int .i64 a0_0, .int .i64 a0_1, .slice A0_2 l0_2.length c0_2, .slice A0_3 l0_3.length c0_3, .slice A0_4 l0_4.length c0_4] 75)).alloc (by simp) (.cells #[.int .i64 0, .int .i64 0, .slice none 0 0, .slice none 0 0, .slice none 0 0] 75))
  go_enter Try.func50, Try.ntmps50
  go_wp2_with (first | (go_at_call 49; (with_reducible refine (impl_ThreeOk.calls k a0_0 a0_1 A0_2 c0_2 l0_2 A0_3 c0_3 l0_3 A0_4 c0_4 l0_4 false _ (Kd.C_alloc (Kd.C_alloc HR2.out _) _) HC2.out (Kd.C_alloc (Kd.C_alloc HR3.out _) _) HC3.out (Kd.C_alloc (Kd.C_alloc HR4.out _) _) HC4.out OK.out).mono ?_); rintro e w1 ⟨rfl, hb⟩; have B1 := Aside0.mk (blk_below BK1.out hb); have B4 := Aside0.mk (blk_below BK4.out hb); have HB := Aside0.mk (below_step BKB.out hb); clear hb; obtain ⟨⟨p0, p1, p2, p3, p4⟩, q0, q1, q2, q3, q4⟩ := cells5 B1.out; obtain ⟨⟨r0, r1, r2, r3, r4⟩, t0, t1, t2, t3, t4⟩ := cells5 B4.out))
  refine bodyPost_ret (results_ctt rfl _ _ (w.heap.size + 1) 75 #[.int .i64 0, .int .i64 0, .slice none 0 0, .slice none 0 0, .slice none 0 0] (0, 0) _ rfl (put5 B4.out _ _ _ _ _) Try.underlying75 rfl (by kernel_rfl)) rfl ?_
  exact ⟨rfl, below_put5 HB.out (by omega) _ _ _ _ _⟩
set_option maxHeartbeats 8000000 in
set_option maxRecDepth 100000 in
theorem impl_Get.miss (k : Nat) (a0_0 a0_1 : Int) (A0_2 : Option Addr) (c0_2 : Nat) (l0_2 : List S120) (A0_3 : Option Addr) (c0_3 : Nat) (l0_3 : List S120) (A0_4 : Option Addr) (c0_4 : Nat) (l0_4 : List Int) (a1 : ByteArray) (w : World) (hr0_2 : Kd.C k120 w A0_2 l0_2.length l0_2) (hc0_2 : l0_2.length ≤ c0_2) (hr0_3 : Kd.C k120 w A0_3 l0_3.length l0_3) (hc0_3 : l0_3.length ≤ c0_3) (hr0_4 : Kd.C (Kd.int .i64) w A0_4 l0_4.length l0_4) (hc0_4 : l0_4.length ≤ c0_4) (hok : impl_ThreeOk.f k a0_0 a0_1 l0_2 l0_3 l0_4 = some true) (h2 : ¬ 0 ≤ ixOf l0_2 a1) (h3 : ¬ 0 ≤ ixOf l0_3 a1) :
    Calls Try.prog 50 #[.agg #[.int .i64 a0_0, .int .i64 a0_1, .slice A0_2 l0_2.length c0_2, .slice A0_3 l0_3.length c0_3, .slice A0_4 l0_4.length c0_4], .string a1] w fun e w' => ∃ v2_ v3_ v4_ : Value, e = .returned (.tuple #[.agg #[.int .i64 a0_0, .int .i64 a0_1, v2_, v3_, v4_], .string ⟨#[]⟩, .bool false]) ∧ Kd.R k120 120 w' w.heap.size (fun k_ => some k_ ≠ (v3_ : Value).ownBlock) v2_ l0_2 ∧ Kd.R k120 120 w' w.heap.size (fun k_ => some k_ ≠ (v2_ : Value).ownBlock) v3_ l0_3 ∧ Kd.R (Kd.int .i64) 3 w' w.heap.size (fun _ => True) v4_ l0_4 ∧ Below w.heap.size w w' := by
  have HR2 := Aside0.mk hr0_2
  have HC2 := Aside0.mk hc0_2
  have HR3 := Aside0.mk hr0_3
  have HC3 := Aside0.mk hc0_3
  have HR4 := Aside0.mk hr0_4
  have HC4 := Aside0.mk hc0_4
  clear hr0_2 hc0_2 hr0_3 hc0_3 hr0_4 hc0_4
  have HCR := Aside0.mk (show impl_copyThree.f a0_0 a0_1 l0_2 l0_3 l0_4 = some (a0_0, a0_1, l0_2, l0_3, l0_4) by
    have hl := ThreeOk_len hok
    unfold impl_copyThree.f impl_copyItems.f impl_copyInts.f
    rw [if_pos (by omega), Option.bind_some, if_pos (by omega), Option.bind_some, if_pos (by omega)]; rfl)
  have OK := Aside0.mk hok
  clear hok
  have HX2 := Aside0.mk (Int.not_le.mp h2)
  have HX3 := Aside0.mk (Int.not_le.mp h3)
  clear h2 h3
  have BK1 := Aside0.mk (blk_alloc (blk_new w (.cells #[.int .i64 a0_0, .int .i64 a0_1, .slice A0_2 l0_2.length c0_2, .slice A0_3 l0_3.length c0_3, .slice A0_4 l0_4.length c0_4] 75)) (.cells #[.int .i64 0, .int .i64 0, .slice none 0 0, .slice none 0 0, .slice none 0 0] 75))
  have BK4 := Aside0.mk (show ((w.alloc (.cells #[.int .i64 a0_0, .int .i64 a0_1, .slice A0_2 l0_2.length c0_2, .slice A0_3 l0_3.length c0_3, .slice A0_4 l0_4.length c0_4] 75)).alloc (.cells #[.int .i64 0, .int .i64 0, .slice none 0 0, .slice none 0 0, .slice none 0 0] 75)).heap[w.heap.size + 1]? = some (.cells #[.int .i64 0, .int .i64 0, .slice none 0 0, .slice none 0 0, .slice none 0 0] 75 (0, 0)) by have z := blk_new (w.alloc (.cells #[.int .i64 a0_0, .int .i64 a0_1, .slice A0_2 l0_2.length c0_2, .slice A0_3 l0_3.length c0_3, .slice A0_4 l0_4.length c0_4] 75)) (.cells #[.int .i64 0, .int .i64 0, .slice none 0 0, .slice none 0 0, .slice none 0 0] 75); simpa using z)
  have BKB := Aside0.mk (((Below.refl w.heap.size w).alloc (Nat.le_refl _) (.cells #[.int .i64 a0_0, .int .i64 a0_1, .slice A0_2 l0_2.length c0_2, .slice A0_3 l0_3.length c0_3, .slice A0_4 l0_4.length c0_4] 75)).alloc (by simp) (.cells #[.int .i64 0, .int .i64 0, .slice none 0 0, .slice none 0 0, .slice none 0 0] 75))
  go_enter Try.func50, Try.ntmps50
  go_wp2_with (first | (go_at_call 49; (with_reducible refine (impl_ThreeOk.calls k a0_0 a0_1 A0_2 c0_2 l0_2 A0_3 c0_3 l0_3 A0_4 c0_4 l0_4 true _ (Kd.C_alloc (Kd.C_alloc HR2.out _) _) HC2.out (Kd.C_alloc (Kd.C_alloc HR3.out _) _) HC3.out (Kd.C_alloc (Kd.C_alloc HR4.out _) _) HC4.out OK.out).mono ?_); rintro e w1 ⟨rfl, hb⟩; have B1 := Aside0.mk (blk_below BK1.out hb); have B4 := Aside0.mk (blk_below BK4.out hb); have HB := Aside0.mk (below_step BKB.out hb); clear hb; obtain ⟨⟨p0, p1, p2, p3, p4⟩, q0, q1, q2, q3, q4⟩ := cells5 B1.out; obtain ⟨⟨r0, r1, r2, r3, r4⟩, t0, t1, t2, t3, t4⟩ := cells5 B4.out) | (go_at_call 110; (with_reducible refine (impl_copyThree.calls a0_0 a0_1 A0_2 c0_2 l0_2 A0_3 c0_3 l0_3 A0_4 c0_4 l0_4 a0_0 a0_1 l0_2 l0_3 l0_4 _ (Kd.C_below HR2.out HB.out) HC2.out (Kd.C_below HR3.out HB.out) HC3.out (Kd.C_below HR4.out HB.out) HC4.out HCR.out).mono ?_); rintro e w2 ⟨v2, v3, v4, rfl, ho2, ho3, ho4, hb⟩; obtain ⟨A2, c2, rfl, hc2, hC2⟩ := Kd.R_reads ho2; obtain ⟨A3, c3, rfl, hc3, hC3⟩ := Kd.R_reads ho3; obtain ⟨A4, c4, rfl, hc4, hC4⟩ := Kd.R_reads ho4; have HO2 := Aside0.mk (Kd.R_lower ho2 HB.out.size); have HO3 := Aside0.mk (Kd.R_lower ho3 HB.out.size); have HO4 := Aside0.mk (Kd.R_lower ho4 HB.out.size); have HL2 := Aside0.mk hc2; have HL3 := Aside0.mk hc3; have HK2 := Aside0.mk hC2; have HK3 := Aside0.mk hC3; have C1 := Aside0.mk (blk_below B1.out hb); have C4 := Aside0.mk (blk_below B4.out hb); have HB2 := Aside0.mk (below_step HB.out hb); have HS2 := Aside0.mk (show w.heap.size + 1 < w2.heap.size from blk_lt C4.out); clear hb ho2 ho3 ho4 hc2 hc3 hc4 hC2 hC3 hC4 p0 p1 p2 p3 p4 q0 q1 q2 q3 q4 r0 r1 r2 r3 r4 t0 t1 t2 t3 t4; have BN := Aside0.mk (blk_new w2 (.cells #[.int .i64 a0_0, .int .i64 a0_1, .slice A2 l0_2.length c2, .slice A3 l0_3.length c3, .slice A4 l0_4.length c4] 75)); have HPT := Aside0.mk (show itemPtr A2 l0_2 A3 l0_3 a1 = none by unfold itemPtr; rw [if_neg (Int.not_le.mpr HX2.out), if_neg (Int.not_le.mpr HX3.out)])) | (go_at_call 111; (with_reducible refine (item.calls w2.heap.size a0_0 a0_1 A2 c2 l0_2 A3 c3 l0_3 _ a1 _ BN.out (Kd.C_alloc HK2.out _) HL2.out (Kd.C_alloc HK3.out _) HL3.out).mono ?_); rw [HPT.out]; rintro e w3 ⟨rfl, hb⟩; have D4 := Aside0.mk (blk_below (blk_alloc C4.out _) hb); have DN := Aside0.mk (blk_below BN.out hb); have HB3 := Aside0.mk (below_step (HB2.out.alloc HB2.out.size _) hb); have HP2 := Aside0.mk (Kd.R_below (Kd.R_alloc HO2.out _) hb); have HP3 := Aside0.mk (Kd.R_below (Kd.R_alloc HO3.out _) hb); have HP4 := Aside0.mk (Kd.R_below (Kd.R_alloc HO4.out _) hb); clear hb; obtain ⟨⟨p0, p1, p2, p3, p4⟩, q0, q1, q2, q3, q4⟩ := cells5 DN.out; obtain ⟨⟨r0, r1, r2, r3, r4⟩, t0, t1, t2, t3, t4⟩ := cells5 D4.out))
  refine bodyPost_ret (results_ctt rfl _ _ (w.heap.size + 1) 75 #[.int .i64 a0_0, .int .i64 a0_1, .slice A2 l0_2.length c2, .slice A3 l0_3.length c3, .slice A4 l0_4.length c4] (0, 0) _ rfl (put5 D4.out _ _ _ _ _) Try.underlying75 rfl (by kernel_rfl)) rfl ?_
  have KP := keep5 w3 (w.heap.size + 1) (.int .i64 a0_0) (.int .i64 a0_1) (.slice A2 l0_2.length c2) (.slice A3 l0_3.length c3) (.slice A4 l0_4.length c4)
  exact ⟨_, _, _, rfl, R_keepG HP2.out KP D4.out (by decide), R_keepG HP3.out KP D4.out (by decide), R_keepG HP4.out KP D4.out (by decide), below_put5 HB3.out (by omega) _ _ _ _ _⟩
theorem own_frozen {w : World} {base n g c : Nat} {xs : List S120} {ok : Nat → Prop} (h : Kd.R k120 120 w base ok (.slice (some ⟨g, 0, none⟩) n c) xs) (j : Nat) : w.frozen? ⟨g, j, none⟩ = false := by
  obtain ⟨cells, hc⟩ := Kd.R_typed h g (by simp [Value.ownBlock])
  exact blk_frozen hc j
set_option maxHeartbeats 8000000 in
set_option maxRecDepth 100000 in
theorem impl_Get.hit2 (k : Nat) (a0_0 a0_1 : Int) (A0_2 : Option Addr) (c0_2 : Nat) (l0_2 : List S120) (A0_3 : Option Addr) (c0_3 : Nat) (l0_3 : List S120) (A0_4 : Option Addr) (c0_4 : Nat) (l0_4 : List Int) (a1 : ByteArray) (w : World) (hr0_2 : Kd.C k120 w A0_2 l0_2.length l0_2) (hc0_2 : l0_2.length ≤ c0_2) (hr0_3 : Kd.C k120 w A0_3 l0_3.length l0_3) (hc0_3 : l0_3.length ≤ c0_3) (hr0_4 : Kd.C (Kd.int .i64) w A0_4 l0_4.length l0_4) (hc0_4 : l0_4.length ≤ c0_4) (hok : impl_ThreeOk.f k a0_0 a0_1 l0_2 l0_3 l0_4 = some true) (i : Nat) (hi : i < l0_2.length) (hx : ixOf l0_2 a1 = i) :
    Calls Try.prog 50 #[.agg #[.int .i64 a0_0, .int .i64 a0_1, .slice A0_2 l0_2.length c0_2, .slice A0_3 l0_3.length c0_3, .slice A0_4 l0_4.length c0_4], .string a1] w fun e w' => ∃ v2_ v3_ v4_ : Value, e = .returned (.tuple #[.agg #[.int .i64 a0_0, .int .i64 a0_1, v2_, v3_, v4_], .string (rd_T120 l0_2 i).f1, .bool true]) ∧ Kd.R k120 120 w' w.heap.size (fun k_ => some k_ ≠ (v3_ : Value).ownBlock) v2_ (l0_2.set i (bump (rd_T120 l0_2 i))) ∧ Kd.R k120 120 w' w.heap.size (fun k_ => some k_ ≠ (v2_ : Value).ownBlock) v3_ l0_3 ∧ Kd.R (Kd.int .i64) 3 w' w.heap.size (fun _ => True) v4_ l0_4 ∧ Below w.heap.size w w' := by
  have HR2 := Aside0.mk hr0_2
  have HC2 := Aside0.mk hc0_2
  have HR3 := Aside0.mk hr0_3
  have HC3 := Aside0.mk hc0_3
  have HR4 := Aside0.mk hr0_4
  have HC4 := Aside0.mk hc0_4
  clear hr0_2 hc0_2 hr0_3 hc0_3 hr0_4 hc0_4
  have HXX := Aside0.mk hx
  have HII := Aside0.mk hi
  clear hx hi
  obtain ⟨y, hy⟩ : ∃ y, y = rd_T120 l0_2 i := ⟨_, rfl⟩
  have HY := Aside0.mk hy
  rw [← hy]
  clear hy
  obtain ⟨z, hz⟩ : ∃ z : Int, mn 3 (wrap64 (y.f2 + 1)) = z := ⟨_, rfl⟩
  have hz_ : (if wrap64 (y.f2 + 1) < 3 then wrap64 (y.f2 + 1) else 3) = z := hz
  have hbz : bump y = ⟨y.f0, y.f1, z⟩ := by unfold bump; rw [hz]
  rw [hbz]
  obtain ⟨xs1, hxs1⟩ : ∃ q, q = l0_2.set i ⟨y.f0, y.f1, z⟩ := ⟨_, rfl⟩
  have HX1 := Aside0.mk hxs1
  rw [← hxs1]
  have HXL : Aside0 (xs1.length = l0_2.length) := ⟨by rw [hxs1, List.length_set]⟩
  clear hz hxs1 hbz
  have HCR := Aside0.mk (show impl_copyThree.f a0_0 a0_1 l0_2 l0_3 l0_4 = some (a0_0, a0_1, l0_2, l0_3, l0_4) by
    have hl := ThreeOk_len hok
    unfold impl_copyThree.f impl_copyItems.f impl_copyInts.f
    rw [if_pos (by omega), Option.bind_some, if_pos (by omega), Option.bind_some, if_pos (by omega)]; rfl)
  have OK := Aside0.mk hok
  clear hok
  have BK1 := Aside0.mk (blk_alloc (blk_new w (.cells #[.int .i64 a0_0, .int .i64 a0_1, .slice A0_2 l0_2.length c0_2, .slice A0_3 l0_3.length c0_3, .slice A0_4 l0_4.length c0_4] 75)) (.cells #[.int .i64 0, .int .i64 0, .slice none 0 0, .slice none 0 0, .slice none 0 0] 75))
  have BK4 := Aside0.mk (show ((w.alloc (.cells #[.int .i64 a0_0, .int .i64 a0_1, .slice A0_2 l0_2.length c0_2, .slice A0_3 l0_3.length c0_3, .slice A0_4 l0_4.length c0_4] 75)).alloc (.cells #[.int .i64 0, .int .i64 0, .slice none 0 0, .slice none 0 0, .slice none 0 0] 75)).heap[w.heap.size + 1]? = some (.cells #[.int .i64 0, .int .i64 0, .slice none 0 0, .slice none 0 0, .slice none 0 0] 75 (0, 0)) by have z := blk_new (w.alloc (.cells #[.int .i64 a0_0, .int .i64 a0_1, .slice A0_2 l0_2.length c0_2, .slice A0_3 l0_3.length c0_3, .slice A0_4 l0_4.length c0_4] 75)) (.cells #[.int .i64 0, .int .i64 0, .slice none 0 0, .slice none 0 0, .slice none 0 0] 75); simpa using z)
  have BKB := Aside0.mk (((Below.refl w.heap.size w).alloc (Nat.le_refl _) (.cells #[.int .i64 a0_0, .int .i64 a0_1, .slice A0_2 l0_2.length c0_2, .slice A0_3 l0_3.length c0_3, .slice A0_4 l0_4.length c0_4] 75)).alloc (by simp) (.cells #[.int .i64 0, .int .i64 0, .slice none 0 0, .slice none 0 0, .slice none 0 0] 75))
  go_enter Try.func50, Try.ntmps50
  go_wp2_with (first | (go_at_call 49; (with_reducible refine (impl_ThreeOk.calls k a0_0 a0_1 A0_2 c0_2 l0_2 A0_3 c0_3 l0_3 A0_4 c0_4 l0_4 true _ (Kd.C_alloc (Kd.C_alloc HR2.out _) _) HC2.out (Kd.C_alloc (Kd.C_alloc HR3.out _) _) HC3.out (Kd.C_alloc (Kd.C_alloc HR4.out _) _) HC4.out OK.out).mono ?_); rintro e w1 ⟨rfl, hb⟩; have B1 := Aside0.mk (blk_below BK1.out hb); have B4 := Aside0.mk (blk_below BK4.out hb); have HB := Aside0.mk (below_step BKB.out hb); clear hb; obtain ⟨⟨p0, p1, p2, p3, p4⟩, q0, q1, q2, q3, q4⟩ := cells5 B1.out; obtain ⟨⟨r0, r1, r2, r3, r4⟩, t0, t1, t2, t3, t4⟩ := cells5 B4.out) | (go_at_call 110; (with_reducible refine (impl_copyThree.calls a0_0 a0_1 A0_2 c0_2 l0_2 A0_3 c0_3 l0_3 A0_4 c0_4 l0_4 a0_0 a0_1 l0_2 l0_3 l0_4 _ (Kd.C_below HR2.out HB.out) HC2.out (Kd.C_below HR3.out HB.out) HC3.out (Kd.C_below HR4.out HB.out) HC4.out HCR.out).mono ?_); rintro e w2 ⟨v2, v3, v4, rfl, ho2, ho3, ho4, hb⟩; obtain ⟨A2, c2, rfl, hc2, hC2⟩ := Kd.R_reads ho2; obtain ⟨A3, c3, rfl, hc3, hC3⟩ := Kd.R_reads ho3; obtain ⟨A4, c4, rfl, hc4, hC4⟩ := Kd.R_reads ho4; have HO2 := Aside0.mk (Kd.R_lower ho2 HB.out.size); have HO3 := Aside0.mk (Kd.R_lower ho3 HB.out.size); have HO4 := Aside0.mk (Kd.R_lower ho4 HB.out.size); have HL2 := Aside0.mk hc2; have HL3 := Aside0.mk hc3; have HK2 := Aside0.mk hC2; have HK3 := Aside0.mk hC3; have C1 := Aside0.mk (blk_below B1.out hb); have C4 := Aside0.mk (blk_below B4.out hb); have HB2 := Aside0.mk (below_step HB.out hb); have HS2 := Aside0.mk (show w.heap.size + 1 < w2.heap.size from blk_lt C4.out); clear hb ho2 ho3 ho4 hc2 hc3 hc4 hC2 hC3 hC4 p0 p1 p2 p3 p4 q0 q1 q2 q3 q4 r0 r1 r2 r3 r4 t0 t1 t2 t3 t4; have BN := Aside0.mk (blk_new w2 (.cells #[.int .i64 a0_0, .int .i64 a0_1, .slice A2 l0_2.length c2, .slice A3 l0_3.length c3, .slice A4 l0_4.length c4] 75)); obtain ⟨g2, cx, hv, _, _, _⟩ := own_form HO2.out (Nat.lt_of_le_of_lt (Nat.zero_le _) HII.out); injection hv with hv1 hvl hv2; subst hv1; subst hv2; clear hvl; have HPT := Aside0.mk (show itemPtr (some ⟨g2, 0, none⟩) l0_2 A3 l0_3 a1 = some ⟨g2, i * 3, none⟩ by unfold itemPtr; rw [if_pos (by rw [HXX.out]; omega), HXX.out]; rw [Option.map_some, Int.toNat_natCast, add_plain])) | (go_at_call 111; (with_reducible refine (item.calls w2.heap.size a0_0 a0_1 (some ⟨g2, 0, none⟩) c2 l0_2 A3 c3 l0_3 _ a1 _ BN.out (Kd.C_alloc HK2.out _) HL2.out (Kd.C_alloc HK3.out _) HL3.out).mono ?_); rw [HPT.out]; rintro e w3 ⟨rfl, hb⟩; have D4 := Aside0.mk (blk_below (blk_alloc C4.out _) hb); have DN := Aside0.mk (blk_below BN.out hb); have HB3 := Aside0.mk (below_step (HB2.out.alloc HB2.out.size _) hb); have HP2 := Aside0.mk (Kd.R_below (Kd.R_alloc HO2.out _) hb); have HP3 := Aside0.mk (Kd.R_below (Kd.R_alloc HO3.out _) hb); have HP4 := Aside0.mk (Kd.R_below (Kd.R_alloc HO4.out _) hb); clear hb; obtain ⟨⟨p0, p1, p2, p3, p4⟩, q0, q1, q2, q3, q4⟩ := cells5 DN.out; obtain ⟨⟨r0, r1, r2, r3, r4⟩, t0, t1, t2, t3, t4⟩ := cells5 D4.out; obtain ⟨x0, x1, x2⟩ := own_elem HP2.out i HII.out; rw [← HY.out] at x0 x1 x2; have xf := own_frozen HP2.out (i * 3 + 2)))
  obtain ⟨P1, P2⟩ := own_put2 HP2.out i HII.out z
  rw [← HY.out, ← HX1.out] at P1
  have E2 := Aside0.mk P1
  have E3 := Aside0.mk (Kd.R_grown HP3.out P2 (fun k hk => by simpa [Value.ownBlock] using hk))
  have E4 := Aside0.mk (R_grownT HP4.out P2 (fun k hk => by injection hk with hk; subst hk; exact Kd.R_typed HP2.out g2 (by simp [Value.ownBlock])) (by decide))
  have EN := Aside0.mk (blk_grown DN.out P2 (by have := Kd.R_ne HP2.out DN.out (by decide); simpa [Value.ownBlock] using this))
  have ER := Aside0.mk (blk_grown D4.out P2 (by have := Kd.R_ne HP2.out D4.out (by decide); simpa [Value.ownBlock] using this))
  have EB := Aside0.mk (HB3.out.setCell (p := ⟨g2, i * 3 + 2, none⟩) (Kd.R_base HP2.out g2 (by simp [Value.ownBlock])) (.int .i64 z))
  have x1' : (w3.setCell ⟨g2, i * 3 + 2, none⟩ (.int .i64 z)).cell? ⟨g2, i * 3 + 1, none⟩ = some (.string y.f1) := by
    have h := (own_elem P1 i (by rw [HX1.out, List.length_set]; exact HII.out)).2.1
    rw [h, HX1.out]
    simp [rd_T120, HII.out]
  have HN1 : Aside0 (w2.heap.size ≠ w.heap.size + 1) := ⟨Nat.ne_of_gt HS2.out⟩
  have HN2 : Aside0 (g2 ≠ w.heap.size + 1) := ⟨fun he => by have h1 := Kd.R_ne HP2.out D4.out (by decide); rw [he] at h1; simp [Value.ownBlock] at h1⟩
  clear x0 x1 x2 xf p0 p1 p2 p3 p4 q0 q1 q2 q3 q4 r0 r1 r2 r3 r4 t0 t1 t2 t3 t4 P1 P2 HP2 HP3 HP4 DN D4 HB3 HO2 HO3 HO4 HL2 HL3 HK2 HK3 C1 C4 HB2 B1 B4 HB BN BK1 BK4 BKB
  generalize w3.setCell ⟨g2, i * 3 + 2, none⟩ (.int .i64 z) = W at *
  obtain ⟨⟨s0, s1, s2, s3, s4⟩, _⟩ := cells5 EN.out
  refine start_ (n := 8) (S := fun w' => w'.cell? ⟨w2.heap.size, 0, none⟩ = some (.int .i64 a0_0) ∧ w'.cell? ⟨w2.heap.size, 1, none⟩ = some (.int .i64 a0_1) ∧ w'.cell? ⟨w2.heap.size, 2, none⟩ = some (.slice (some ⟨g2, 0, none⟩) l0_2.length c2) ∧ w'.cell? ⟨w2.heap.size, 3, none⟩ = some (.slice A3 l0_3.length c3) ∧ w'.cell? ⟨w2.heap.size, 4, none⟩ = some (.slice A4 l0_4.length c4) ∧ w'.cell? ⟨g2, i * 3 + 1, none⟩ = some (.string y.f1)) (ds := []) #[false, false, false, false, false, false, false, false] (by kernel_rfl) rfl rfl ⟨s0, s1, s2, s3, s4, x1'⟩ (fun hHeld => ?_)
  clear s0 s1 s2 s3 s4 x1'
  refine take_ (i := 0) (N := some 29) (v := ?_) (a' := ?_) #[true, false, false, false, false, false, false, false] rfl rfl (by kernel_rfl) (fun _ _ _ h => h) (Or.inl ⟨by rfl, ?_⟩) hHeld ?_ ?_
  rotate_left
  · rintro w' ⟨s0, s1, s2, s3, s4, s5⟩
    go_simp
    with_reducible rfl
  rotate_left
  · simp only [Act.put, lz1, lz2, lz3, i64_w, i32_w]
    rfl
  refine pure_ (i := 1) (N := some 30) (v := ?_) (a' := ?_) #[true, true, false, false, false, false, false, false] rfl rfl (by kernel_rfl) (fun _ _ _ h => h) (Or.inl ⟨by rfl, ?_⟩) ?_ ?_
  rotate_left
  · intro w'
    go_simp
    with_reducible rfl
  rotate_left
  · simp only [Act.put, lz1, lz2, lz3, i64_w, i32_w]
    rfl
  refine pure_ (i := 2) (N := some 31) (v := ?_) (a' := ?_) #[true, true, true, false, false, false, false, false] rfl rfl (by kernel_rfl) (fun _ _ _ h => h) (Or.inl ⟨by rfl, ?_⟩) ?_ ?_
  rotate_left
  · intro w'
    go_simp
    with_reducible rfl
  rotate_left
  · simp only [Act.put, lz1, lz2, lz3, i64_w, i32_w]
    rfl
  refine pure_ (i := 3) (N := some 32) (v := ?_) (a' := ?_) #[true, true, true, true, false, false, false, false] rfl rfl (by kernel_rfl) (fun _ _ _ h => h) (Or.inl ⟨by rfl, ?_⟩) ?_ ?_
  rotate_left
  · intro w'
    go_simp
    with_reducible rfl
  rotate_left
  · simp only [Act.put, lz1, lz2, lz3, i64_w, i32_w]
    rfl
  refine take_ (i := 4) (N := some 33) (v := ?_) (a' := ?_) #[true, true, true, true, true, false, false, false] rfl rfl (by kernel_rfl) (fun _ _ _ h => h) (Or.inl ⟨by rfl, ?_⟩) hHeld ?_ ?_
  rotate_left
  · rintro w' ⟨s0, s1, s2, s3, s4, s5⟩
    go_simp
    with_reducible rfl
  rotate_left
  · simp only [Act.put, lz1, lz2, lz3, i64_w, i32_w]
    rfl
  refine one_ (i := 5) (N := none) #[true, true, true, true, true, true, false, false] rfl rfl (by kernel_rfl) (by decide) (fun K hK => ?_)
  obtain ⟨⟨r0, r1, r2, r3, r4⟩, t0, t1, t2, t3, t4⟩ := cells5 ER.out
  refine skip_ rfl rfl (w1 := ((((W.drew.setCell ⟨w.heap.size + 1, 0, none⟩ (.int .i64 a0_0)).setCell ⟨w.heap.size + 1, 1, none⟩ (.int .i64 a0_1)).setCell ⟨w.heap.size + 1, 2, none⟩ (.slice (some ⟨g2, 0, none⟩) l0_2.length c2)).setCell ⟨w.heap.size + 1, 3, none⟩ (.slice A3 l0_3.length c3)).setCell ⟨w.heap.size + 1, 4, none⟩ (.slice A4 l0_4.length c4)) (by go_simp) ?_
  refine hK.out _ _ ⟨far_cell5 hHeld.1 HN1.out _ _ _ _ _, far_cell5 hHeld.2.1 HN1.out _ _ _ _ _, far_cell5 hHeld.2.2.1 HN1.out _ _ _ _ _, far_cell5 hHeld.2.2.2.1 HN1.out _ _ _ _ _, far_cell5 hHeld.2.2.2.2.1 HN1.out _ _ _ _ _, far_cell5 hHeld.2.2.2.2.2 HN2.out _ _ _ _ _⟩ (fun hHeld => ?_)
  clear hK K
  refine pure_ (i := 6) (N := some 5) (v := ?_) (a' := ?_) #[true, true, true, true, true, true, true, false] rfl rfl (by kernel_rfl) (fun _ _ _ h => h) (Or.inl ⟨by rfl, ?_⟩) ?_ ?_
  rotate_left
  · intro w'
    go_simp
    with_reducible rfl
  rotate_left
  · simp only [Act.put, lz1, lz2, lz3, i64_w, i32_w]
    rfl
  refine pure_ (i := 7) (N := some 6) (v := ?_) (a' := ?_) #[true, true, true, true, true, true, true, true] rfl rfl (by kernel_rfl) (fun _ _ _ h => h) (Or.inl ⟨by rfl, ?_⟩) ?_ ?_
  rotate_left
  · intro w'
    go_simp
    with_reducible rfl
  rotate_left
  · simp only [Act.put, lz1, lz2, lz3, i64_w, i32_w]
    rfl
  refine done_ (by kernel_rfl) ?_
  clear r0 r1 r2 r3 r4 t0 t1 t2 t3 t4
  go_wp2
  refine bodyPost_ret (results_ctt rfl _ _ (w.heap.size + 1) 75 #[.int .i64 a0_0, .int .i64 a0_1, .slice (some ⟨g2, 0, none⟩) l0_2.length c2, .slice A3 l0_3.length c3, .slice A4 l0_4.length c4] (0, 0) _ rfl (put5 (blk_drew ER.out) _ _ _ _ _) Try.underlying75 rfl (by kernel_rfl)) rfl ?_
  have KP := keep5 W.drew (w.heap.size + 1) (.int .i64 a0_0) (.int .i64 a0_1) (.slice (some ⟨g2, 0, none⟩) l0_2.length c2) (.slice A3 l0_3.length c3) (.slice A4 l0_4.length c4)
  exact ⟨_, _, _, rfl, R_keepG (Kd.R_drew E2.out) KP (blk_drew ER.out) (by decide), R_keepG (Kd.R_drew E3.out) KP (blk_drew ER.out) (by decide), R_keepG (Kd.R_drew E4.out) KP (blk_drew ER.out) (by decide), below_put5 EB.out.drew (by omega) _ _ _ _ _⟩
set_option maxHeartbeats 8000000 in
set_option maxRecDepth 100000 in
theorem impl_Get.hit3 (k : Nat) (a0_0 a0_1 : Int) (A0_2 : Option Addr) (c0_2 : Nat) (l0_2 : List S120) (A0_3 : Option Addr) (c0_3 : Nat) (l0_3 : List S120) (A0_4 : Option Addr) (c0_4 : Nat) (l0_4 : List Int) (a1 : ByteArray) (w : World) (hr0_2 : Kd.C k120 w A0_2 l0_2.length l0_2) (hc0_2 : l0_2.length ≤ c0_2) (hr0_3 : Kd.C k120 w A0_3 l0_3.length l0_3) (hc0_3 : l0_3.length ≤ c0_3) (hr0_4 : Kd.C (Kd.int .i64) w A0_4 l0_4.length l0_4) (hc0_4 : l0_4.length ≤ c0_4) (hok : impl_ThreeOk.f k a0_0 a0_1 l0_2 l0_3 l0_4 = some true) (hx2 : ¬ 0 ≤ ixOf l0_2 a1) (i : Nat) (hi : i < l0_3.length) (hx : ixOf l0_3 a1 = i) :
    Calls Try.prog 50 #[.agg #[.int .i64 a0_0, .int .i64 a0_1, .slice A0_2 l0_2.length c0_2, .slice A0_3 l0_3.length c0_3, .slice A0_4 l0_4.length c0_4], .string a1] w fun e w' => ∃ v2_ v3_ v4_ : Value, e = .returned (.tuple #[.agg #[.int .i64 a0_0, .int .i64 a0_1, v2_, v3_, v4_], .string (rd_T120 l0_3 i).f1, .bool true]) ∧ Kd.R k120 120 w' w.heap.size (fun k_ => some k_ ≠ (v3_ : Value).ownBlock) v2_ l0_2 ∧ Kd.R k120 120 w' w.heap.size (fun k_ => some k_ ≠ (v2_ : Value).ownBlock) v3_ (l0_3.set i (bump (rd_T120 l0_3 i))) ∧ Kd.R (Kd.int .i64) 3 w' w.heap.size (fun _ => True) v4_ l0_4 ∧ Below w.heap.size w w' := by
  have HR2 := Aside0.mk hr0_2
  have HC2 := Aside0.mk hc0_2
  have HR3 := Aside0.mk hr0_3
  have HC3 := Aside0.mk hc0_3
  have HR4 := Aside0.mk hr0_4
  have HC4 := Aside0.mk hc0_4
  clear hr0_2 hc0_2 hr0_3 hc0_3 hr0_4 hc0_4
  have HXX := Aside0.mk hx
  have HII := Aside0.mk hi
  have HX2 := Aside0.mk (Int.not_le.mp hx2)
  clear hx2
  clear hx hi
  obtain ⟨y, hy⟩ : ∃ y, y = rd_T120 l0_3 i := ⟨_, rfl⟩
  have HY := Aside0.mk hy
  rw [← hy]
  clear hy
  obtain ⟨z, hz⟩ : ∃ z : Int, mn 3 (wrap64 (y.f2 + 1)) = z := ⟨_, rfl⟩
  have hz_ : (if wrap64 (y.f2 + 1) < 3 then wrap64 (y.f2 + 1) else 3) = z := hz
  have hbz : bump y = ⟨y.f0, y.f1, z⟩ := by unfold bump; rw [hz]
  rw [hbz]
  obtain ⟨xs1, hxs1⟩ : ∃ q, q = l0_3.set i ⟨y.f0, y.f1, z⟩ := ⟨_, rfl⟩
  have HX1 := Aside0.mk hxs1
  rw [← hxs1]
  have HXL : Aside0 (xs1.length = l0_3.length) := ⟨by rw [hxs1, List.length_set]⟩
  clear hz hxs1 hbz
  have HCR := Aside0.mk (show impl_copyThree.f a0_0 a0_1 l0_2 l0_3 l0_4 = some (a0_0, a0_1, l0_2, l0_3, l0_4) by
    have hl := ThreeOk_len hok
    unfold impl_copyThree.f impl_copyItems.f impl_copyInts.f
    rw [if_pos (by omega), Option.bind_some, if_pos (by omega), Option.bind_some, if_pos (by omega)]; rfl)
  have OK := Aside0.mk hok
  clear hok
  have BK1 := Aside0.mk (blk_alloc (blk_new w (.cells #[.int .i64 a0_0, .int .i64 a0_1, .slice A0_2 l0_2.length c0_2, .slice A0_3 l0_3.length c0_3, .slice A0_4 l0_4.length c0_4] 75)) (.cells #[.int .i64 0, .int .i64 0, .slice none 0 0, .slice none 0 0, .slice none 0 0] 75))
  have BK4 := Aside0.mk (show ((w.alloc (.cells #[.int .i64 a0_0, .int .i64 a0_1, .slice A0_2 l0_2.length c0_2, .slice A0_3 l0_3.length c0_3, .slice A0_4 l0_4.length c0_4] 75)).alloc (.cells #[.int .i64 0, .int .i64 0, .slice none 0 0, .slice none 0 0, .slice none 0 0] 75)).heap[w.heap.size + 1]? = some (.cells #[.int .i64 0, .int .i64 0, .slice none 0 0, .slice none 0 0, .slice none 0 0] 75 (0, 0)) by have z := blk_new (w.alloc (.cells #[.int .i64 a0_0, .int .i64 a0_1, .slice A0_2 l0_2.length c0_2, .slice A0_3 l0_3.length c0_3, .slice A0_4 l0_4.length c0_4] 75)) (.cells #[.int .i64 0, .int .i64 0, .slice none 0 0, .slice none 0 0, .slice none 0 0] 75); simpa using z)
  have BKB := Aside0.mk (((Below.refl w.heap.size w).alloc (Nat.le_refl _) (.cells #[.int .i64 a0_0, .int .i64 a0_1, .slice A0_2 l0_2.length c0_2, .slice A0_3 l0_3.length c0_3, .slice A0_4 l0_4.length c0_4] 75)).alloc (by simp) (.cells #[.int .i64 0, .int .i64 0, .slice none 0 0, .slice none 0 0, .slice none 0 0] 75))
  go_enter Try.func50, Try.ntmps50
  go_wp2_with (first | (go_at_call 49; (with_reducible refine (impl_ThreeOk.calls k a0_0 a0_1 A0_2 c0_2 l0_2 A0_3 c0_3 l0_3 A0_4 c0_4 l0_4 true _ (Kd.C_alloc (Kd.C_alloc HR2.out _) _) HC2.out (Kd.C_alloc (Kd.C_alloc HR3.out _) _) HC3.out (Kd.C_alloc (Kd.C_alloc HR4.out _) _) HC4.out OK.out).mono ?_); rintro e w1 ⟨rfl, hb⟩; have B1 := Aside0.mk (blk_below BK1.out hb); have B4 := Aside0.mk (blk_below BK4.out hb); have HB := Aside0.mk (below_step BKB.out hb); clear hb; obtain ⟨⟨p0, p1, p2, p3, p4⟩, q0, q1, q2, q3, q4⟩ := cells5 B1.out; obtain ⟨⟨r0, r1, r2, r3, r4⟩, t0, t1, t2, t3, t4⟩ := cells5 B4.out) | (go_at_call 110; (with_reducible refine (impl_copyThree.calls a0_0 a0_1 A0_2 c0_2 l0_2 A0_3 c0_3 l0_3 A0_4 c0_4 l0_4 a0_0 a0_1 l0_2 l0_3 l0_4 _ (Kd.C_below HR2.out HB.out) HC2.out (Kd.C_below HR3.out HB.out) HC3.out (Kd.C_below HR4.out HB.out) HC4.out HCR.out).mono ?_); rintro e w2 ⟨v2, v3, v4, rfl, ho2, ho3, ho4, hb⟩; obtain ⟨A2, c2, rfl, hc2, hC2⟩ := Kd.R_reads ho2; obtain ⟨A3, c3, rfl, hc3, hC3⟩ := Kd.R_reads ho3; obtain ⟨A4, c4, rfl, hc4, hC4⟩ := Kd.R_reads ho4; have HO2 := Aside0.mk (Kd.R_lower ho2 HB.out.size); have HO3 := Aside0.mk (Kd.R_lower ho3 HB.out.size); have HO4 := Aside0.mk (Kd.R_lower ho4 HB.out.size); have HL2 := Aside0.mk hc2; have HL3 := Aside0.mk hc3; have HK2 := Aside0.mk hC2; have HK3 := Aside0.mk hC3; have C1 := Aside0.mk (blk_below B1.out hb); have C4 := Aside0.mk (blk_below B4.out hb); have HB2 := Aside0.mk (below_step HB.out hb); have HS2 := Aside0.mk (show w.heap.size + 1 < w2.heap.size from blk_lt C4.out); clear hb ho2 ho3 ho4 hc2 hc3 hc4 hC2 hC3 hC4 p0 p1 p2 p3 p4 q0 q1 q2 q3 q4 r0 r1 r2 r3 r4 t0 t1 t2 t3 t4; have BN := Aside0.mk (blk_new w2 (.cells #[.int .i64 a0_0, .int .i64 a0_1, .slice A2 l0_2.length c2, .slice A3 l0_3.length c3, .slice A4 l0_4.length c4] 75)); obtain ⟨g2, cx, hv, _, _, _⟩ := own_form HO3.out (Nat.lt_of_le_of_lt (Nat.zero_le _) HII.out); injection hv with hv1 hvl hv2; subst hv1; subst hv2; clear hvl; have HPT := Aside0.mk (show itemPtr A2 l0_2 (some ⟨g2, 0, none⟩) l0_3 a1 = some ⟨g2, i * 3, none⟩ by unfold itemPtr; rw [if_neg (Int.not_le.mpr HX2.out), if_pos (by rw [HXX.out]; omega), HXX.out]; rw [Option.map_some, Int.toNat_natCast, add_plain])) | (go_at_call 111; (with_reducible refine (item.calls w2.heap.size a0_0 a0_1 A2 c2 l0_2 (some ⟨g2, 0, none⟩) c3 l0_3 _ a1 _ BN.out (Kd.C_alloc HK2.out _) HL2.out (Kd.C_alloc HK3.out _) HL3.out).mono ?_); rw [HPT.out]; rintro e w3 ⟨rfl, hb⟩; have D4 := Aside0.mk (blk_below (blk_alloc C4.out _) hb); have DN := Aside0.mk (blk_below BN.out hb); have HB3 := Aside0.mk (below_step (HB2.out.alloc HB2.out.size _) hb); have HP2 := Aside0.mk (Kd.R_below (Kd.R_alloc HO2.out _) hb); have HP3 := Aside0.mk (Kd.R_below (Kd.R_alloc HO3.out _) hb); have HP4 := Aside0.mk (Kd.R_below (Kd.R_alloc HO4.out _) hb); clear hb; obtain ⟨⟨p0, p1, p2, p3, p4⟩, q0, q1, q2, q3, q4⟩ := cells5 DN.out; obtain ⟨⟨r0, r1, r2, r3, r4⟩, t0, t1, t2, t3, t4⟩ := cells5 D4.out; obtain ⟨x0, x1, x2⟩ := own_elem HP3.out i HII.out; rw [← HY.out] at x0 x1 x2; have xf := own_frozen HP3.out (i * 3 + 2)))
  obtain ⟨P1, P2⟩ := own_put2 HP3.out i HII.out z
  rw [← HY.out, ← HX1.out] at P1
  have E2 := Aside0.mk P1
  have E3 := Aside0.mk (Kd.R_grown HP2.out P2 (fun k hk => by simpa [Value.ownBlock] using hk))
  have E4 := Aside0.mk (R_grownT HP4.out P2 (fun k hk => by injection hk with hk; subst hk; exact Kd.R_typed HP3.out g2 (by simp [Value.ownBlock])) (by decide))
  have EN := Aside0.mk (blk_grown DN.out P2 (by have := Kd.R_ne HP3.out DN.out (by decide); simpa [Value.ownBlock] using this))
  have ER := Aside0.mk (blk_grown D4.out P2 (by have := Kd.R_ne HP3.out D4.out (by decide); simpa [Value.ownBlock] using this))
  have EB := Aside0.mk (HB3.out.setCell (p := ⟨g2, i * 3 + 2, none⟩) (Kd.R_base HP3.out g2 (by simp [Value.ownBlock])) (.int .i64 z))
  have x1' : (w3.setCell ⟨g2, i * 3 + 2, none⟩ (.int .i64 z)).cell? ⟨g2, i * 3 + 1, none⟩ = some (.string y.f1) := by
    have h := (own_elem P1 i (by rw [HX1.out, List.length_set]; exact HII.out)).2.1
    rw [h, HX1.out]
    simp [rd_T120, HII.out]
  have HN1 : Aside0 (w2.heap.size ≠ w.heap.size + 1) := ⟨Nat.ne_of_gt HS2.out⟩
  have HN2 : Aside0 (g2 ≠ w.heap.size + 1) := ⟨fun he => by have h1 := Kd.R_ne HP3.out D4.out (by decide); rw [he] at h1; simp [Value.ownBlock] at h1⟩
  clear x0 x1 x2 xf p0 p1 p2 p3 p4 q0 q1 q2 q3 q4 r0 r1 r2 r3 r4 t0 t1 t2 t3 t4 P1 P2 HP2 HP3 HP4 DN D4 HB3 HO2 HO3 HO4 HL2 HL3 HK2 HK3 C1 C4 HB2 B1 B4 HB BN BK1 BK4 BKB
  generalize w3.setCell ⟨g2, i * 3 + 2, none⟩ (.int .i64 z) = W at *
  obtain ⟨⟨s0, s1, s2, s3, s4⟩, _⟩ := cells5 EN.out
  refine start_ (n := 8) (S := fun w' => w'.cell? ⟨w2.heap.size, 0, none⟩ = some (.int .i64 a0_0) ∧ w'.cell? ⟨w2.heap.size, 1, none⟩ = some (.int .i64 a0_1) ∧ w'.cell? ⟨w2.heap.size, 2, none⟩ = some (.slice A2 l0_2.length c2) ∧ w'.cell? ⟨w2.heap.size, 3, none⟩ = some (.slice (some ⟨g2, 0, none⟩) l0_3.length c3) ∧ w'.cell? ⟨w2.heap.size, 4, none⟩ = some (.slice A4 l0_4.length c4) ∧ w'.cell? ⟨g2, i * 3 + 1, none⟩ = some (.string y.f1)) (ds := []) #[false, false, false, false, false, false, false, false] (by kernel_rfl) rfl rfl ⟨s0, s1, s2, s3, s4, x1'⟩ (fun hHeld => ?_)
  clear s0 s1 s2 s3 s4 x1'
  refine take_ (i := 0) (N := some 29) (v := ?_) (a' := ?_) #[true, false, false, false, false, false, false, false] rfl rfl (by kernel_rfl) (fun _ _ _ h => h) (Or.inl ⟨by rfl, ?_⟩) hHeld ?_ ?_
  rotate_left
  · rintro w' ⟨s0, s1, s2, s3, s4, s5⟩
    go_simp
    with_reducible rfl
  rotate_left
  · simp only [Act.put, lz1, lz2, lz3, i64_w, i32_w]
    rfl
  refine pure_ (i := 1) (N := some 30) (v := ?_) (a' := ?_) #[true, true, false, false, false, false, false, false] rfl rfl (by kernel_rfl) (fun _ _ _ h => h) (Or.inl ⟨by rfl, ?_⟩) ?_ ?_
  rotate_left
  · intro w'
    go_simp
    with_reducible rfl
  rotate_left
  · simp only [Act.put, lz1, lz2, lz3, i64_w, i32_w]
    rfl
  refine pure_ (i := 2) (N := some 31) (v := ?_) (a' := ?_) #[true, true, true, false, false, false, false, false] rfl rfl (by kernel_rfl) (fun _ _ _ h => h) (Or.inl ⟨by rfl, ?_⟩) ?_ ?_
  rotate_left
  · intro w'
    go_simp
    with_reducible rfl
  rotate_left
  · simp only [Act.put, lz1, lz2, lz3, i64_w, i32_w]
    rfl
  refine pure_ (i := 3) (N := some 32) (v := ?_) (a' := ?_) #[true, true, true, true, false, false, false, false] rfl rfl (by kernel_rfl) (fun _ _ _ h => h) (Or.inl ⟨by rfl, ?_⟩) ?_ ?_
  rotate_left
  · intro w'
    go_simp
    with_reducible rfl
  rotate_left
  · simp only [Act.put, lz1, lz2, lz3, i64_w, i32_w]
    rfl
  refine take_ (i := 4) (N := some 33) (v := ?_) (a' := ?_) #[true, true, true, true, true, false, false, false] rfl rfl (by kernel_rfl) (fun _ _ _ h => h) (Or.inl ⟨by rfl, ?_⟩) hHeld ?_ ?_
  rotate_left
  · rintro w' ⟨s0, s1, s2, s3, s4, s5⟩
    go_simp
    with_reducible rfl
  rotate_left
  · simp only [Act.put, lz1, lz2, lz3, i64_w, i32_w]
    rfl
  refine one_ (i := 5) (N := none) #[true, true, true, true, true, true, false, false] rfl rfl (by kernel_rfl) (by decide) (fun K hK => ?_)
  obtain ⟨⟨r0, r1, r2, r3, r4⟩, t0, t1, t2, t3, t4⟩ := cells5 ER.out
  refine skip_ rfl rfl (w1 := ((((W.drew.setCell ⟨w.heap.size + 1, 0, none⟩ (.int .i64 a0_0)).setCell ⟨w.heap.size + 1, 1, none⟩ (.int .i64 a0_1)).setCell ⟨w.heap.size + 1, 2, none⟩ (.slice A2 l0_2.length c2)).setCell ⟨w.heap.size + 1, 3, none⟩ (.slice (some ⟨g2, 0, none⟩) l0_3.length c3)).setCell ⟨w.heap.size + 1, 4, none⟩ (.slice A4 l0_4.length c4)) (by go_simp) ?_
  refine hK.out _ _ ⟨far_cell5 hHeld.1 HN1.out _ _ _ _ _, far_cell5 hHeld.2.1 HN1.out _ _ _ _ _, far_cell5 hHeld.2.2.1 HN1.out _ _ _ _ _, far_cell5 hHeld.2.2.2.1 HN1.out _ _ _ _ _, far_cell5 hHeld.2.2.2.2.1 HN1.out _ _ _ _ _, far_cell5 hHeld.2.2.2.2.2 HN2.out _ _ _ _ _⟩ (fun hHeld => ?_)
  clear hK K
  refine pure_ (i := 6) (N := some 5) (v := ?_) (a' := ?_) #[true, true, true, true, true, true, true, false] rfl rfl (by kernel_rfl) (fun _ _ _ h => h) (Or.inl ⟨by rfl, ?_⟩) ?_ ?_
  rotate_left
  · intro w'
    go_simp
    with_reducible rfl
  rotate_left
  · simp only [Act.put, lz1, lz2, lz3, i64_w, i32_w]
    rfl
  refine pure_ (i := 7) (N := some 6) (v := ?_) (a' := ?_) #[true, true, true, true, true, true, true, true] rfl rfl (by kernel_rfl) (fun _ _ _ h => h) (Or.inl ⟨by rfl, ?_⟩) ?_ ?_
  rotate_left
  · intro w'
    go_simp
    with_reducible rfl
  rotate_left
  · simp only [Act.put, lz1, lz2, lz3, i64_w, i32_w]
    rfl
  refine done_ (by kernel_rfl) ?_
  clear r0 r1 r2 r3 r4 t0 t1 t2 t3 t4
  go_wp2
  refine bodyPost_ret (results_ctt rfl _ _ (w.heap.size + 1) 75 #[.int .i64 a0_0, .int .i64 a0_1, .slice A2 l0_2.length c2, .slice (some ⟨g2, 0, none⟩) l0_3.length c3, .slice A4 l0_4.length c4] (0, 0) _ rfl (put5 (blk_drew ER.out) _ _ _ _ _) Try.underlying75 rfl (by kernel_rfl)) rfl ?_
  have KP := keep5 W.drew (w.heap.size + 1) (.int .i64 a0_0) (.int .i64 a0_1) (.slice A2 l0_2.length c2) (.slice (some ⟨g2, 0, none⟩) l0_3.length c3) (.slice A4 l0_4.length c4)
  exact ⟨_, _, _, rfl, R_keepG (Kd.R_drew E3.out) KP (blk_drew ER.out) (by decide), R_keepG (Kd.R_drew E2.out) KP (blk_drew ER.out) (by decide), R_keepG (Kd.R_drew E4.out) KP (blk_drew ER.out) (by decide), below_put5 EB.out.drew (by omega) _ _ _ _ _⟩
theorem impl_Get.calls (k : Nat) (a0_0 a0_1 : Int) (A0_2 : Option Addr) (c0_2 : Nat) (l0_2 : List S120) (A0_3 : Option Addr) (c0_3 : Nat) (l0_3 : List S120) (A0_4 : Option Addr) (c0_4 : Nat) (l0_4 : List Int) (a1 : ByteArray) (r1 r2 : Int) (r3 r4 : List S120) (r5 : List Int) (r6 : ByteArray) (r7 : Bool) (w : World) (hr0_2 : Kd.C k120 w A0_2 l0_2.length l0_2) (hc0_2 : l0_2.length ≤ c0_2) (hr0_3 : Kd.C k120 w A0_3 l0_3.length l0_3) (hc0_3 : l0_3.length ≤ c0_3) (hr0_4 : Kd.C (Kd.int .i64) w A0_4 l0_4.length l0_4) (hc0_4 : l0_4.length ≤ c0_4) (h : impl_Get.f k a0_0 a0_1 l0_2 l0_3 l0_4 a1 = some (r1, r2, r3, r4, r5, r6, r7)) :
    Calls Try.prog 50 #[.agg #[.int .i64 a0_0, .int .i64 a0_1, .slice A0_2 l0_2.length c0_2, .slice A0_3 l0_3.length c0_3, .slice A0_4 l0_4.length c0_4], .string a1] w fun e w' => ∃ v2_ v3_ v4_ : Value, e = .returned (.tuple #[.agg #[.int .i64 r1, .int .i64 r2, v2_, v3_, v4_], .string r6, .bool r7]) ∧ Kd.R k120 120 w' w.heap.size (fun k_ => some k_ ≠ (v3_ : Value).ownBlock) v2_ r3 ∧ Kd.R k120 120 w' w.heap.size (fun k_ => some k_ ≠ (v2_ : Value).ownBlock) v3_ r4 ∧ Kd.R (Kd.int .i64) 3 w' w.heap.size (fun _ => True) v4_ r5 ∧ Below w.heap.size w w' := by
  obtain ⟨ok, hok, h⟩ := Option.bind_eq_some_iff.mp h
  cases ok with
  | false =>
    rw [if_neg (by simp)] at h
    simp only [Option.some.injEq, Prod.mk.injEq] at h
    obtain ⟨rfl, rfl, rfl, rfl, rfl, rfl, rfl⟩ := h
    exact (impl_Get.no k a0_0 a0_1 A0_2 c0_2 l0_2 A0_3 c0_3 l0_3 A0_4 c0_4 l0_4 a1 w hr0_2 hc0_2 hr0_3 hc0_3 hr0_4 hc0_4 hok).mono fun e w' ⟨he, hb⟩ => ⟨_, _, _, he, Kd.R_nil _ _ _ _ _, Kd.R_nil _ _ _ _ _, Kd.R_nil _ _ _ _ _, hb⟩
  | true =>
    rw [if_pos rfl] at h
    by_cases h2 : 0 ≤ ixOf l0_2 a1
    · rw [if_pos h2] at h
      obtain ⟨i, hi, hil, _⟩ := ixOf_pos l0_2 a1 (by omega)
      rw [hi] at h
      simp only [Option.some.injEq, Prod.mk.injEq, Int.toNat_natCast] at h
      obtain ⟨rfl, rfl, rfl, rfl, rfl, rfl, rfl⟩ := h
      exact impl_Get.hit2 k a0_0 a0_1 A0_2 c0_2 l0_2 A0_3 c0_3 l0_3 A0_4 c0_4 l0_4 a1 w hr0_2 hc0_2 hr0_3 hc0_3 hr0_4 hc0_4 hok i hil hi
    · rw [if_neg h2] at h
      by_cases h3 : 0 ≤ ixOf l0_3 a1
      · rw [if_pos h3] at h
        obtain ⟨i, hi, hil, _⟩ := ixOf_pos l0_3 a1 (by omega)
        rw [hi] at h
        simp only [Option.some.injEq, Prod.mk.injEq, Int.toNat_natCast] at h
        obtain ⟨rfl, rfl, rfl, rfl, rfl, rfl, rfl⟩ := h
        exact impl_Get.hit3 k a0_0 a0_1 A0_2 c0_2 l0_2 A0_3 c0_3 l0_3 A0_4 c0_4 l0_4 a1 w hr0_2 hc0_2 hr0_3 hc0_3 hr0_4 hc0_4 hok h2 i hil hi
      · rw [if_neg h3] at h
        simp only [Option.some.injEq, Prod.mk.injEq] at h
        obtain ⟨rfl, rfl, rfl, rfl, rfl, rfl, rfl⟩ := h
        exact impl_Get.miss k a0_0 a0_1 A0_2 c0_2 l0_2 A0_3 c0_3 l0_3 A0_4 c0_4 l0_4 a1 w hr0_2 hc0_2 hr0_3 hc0_3 hr0_4 hc0_4 hok h2 h3
def impl_Hash.l0 : Nat → ByteArray → Int → Int → Option (Int)
  | 0, _, _, _ => none
  | k + 1, x0, x3, x4 => if x4 < (x0.size : Int) then (if 0 ≤ x4 then (impl_Hash.l0 k x0 (Int.tmod (wrap64 ((Go.bits .xor .i64 x3 (wrap64 (bt x0 x4))) * 16777619)) 4294967296) (wrap64 (x4 + 1))) else (none)) else (some x3)
def impl_Hash.f (k : Nat) (a0 : ByteArray) : Option (Int) := impl_Hash.l0 k a0 2166136261 0
theorem impl_Hash.mono_l : ∀ k, (∀ y0 y1 y2, LeO (impl_Hash.l0 k y0 y1 y2) (impl_Hash.l0 (k + 1) y0 y1 y2))
  | 0 => fun _ _ _ r h => by simp [impl_Hash.l0] at h
  | k + 1 => by
    have ih0 := impl_Hash.mono_l k
    · intro y0 y1 y2
      unfold impl_Hash.l0
      repeat' first
      | (with_reducible exact ih0 _ _ _)
      | (with_reducible exact LeO.refl _)
      | (with_reducible exact LeO.none _)
      | (with_reducible refine LeO.ite ?_ ?_)
      | (with_reducible refine LeO.bind ?_ (fun _ => ?_))
      | exact ih0 _ _ _
      | exact LeO.none _
      | refine LeO.ite ?_ ?_
      | refine LeO.bind ?_ (fun _ => ?_)
theorem impl_Hash.mono : ∀ a0 k, LeO (impl_Hash.f k a0) (impl_Hash.f (k + 1) a0) := by
  intro a0 k
  have ih0 := impl_Hash.mono_l k
  unfold impl_Hash.f
  repeat' first
      | (with_reducible exact ih0 _ _ _)
      | (with_reducible exact LeO.refl _)
      | (with_reducible exact LeO.none _)
      | (with_reducible refine LeO.ite ?_ ?_)
      | (with_reducible refine LeO.bind ?_ (fun _ => ?_))
      | exact ih0 _ _ _
      | exact LeO.none _
      | refine LeO.ite ?_ ?_
      | refine LeO.bind ?_ (fun _ => ?_)
set_option maxHeartbeats 8000000 in
set_option maxRecDepth 100000 in
theorem impl_Hash.calls (k : Nat) (a0 : ByteArray) (r : Int) (w : World) (h : impl_Hash.f k a0 = some r) :
    Calls Try.prog 160 #[.string a0] w fun e w' => e = .returned (.int .i64 r) ∧ Drawn0 w w' := by
  have H : (impl_Hash.l0 k a0 2166136261 0) = some r := h
  clear h
  have H' := Aside0.mk H
  clear H
  go_enter Try.func160, Try.ntmps160
  go_wp2
  go_loopg [3, 4] k (fun kq v3 v4 w' => ∃ (x3_1 : Int) (x4_1 : Int), v3 = .int .i64 x3_1 ∧ v4 = .int .i64 x4_1 ∧ Aside0 (impl_Hash.l0 kq a0 x3_1 x4_1 = some r) ∧ Aside0 (kq ≤ k) ∧ Drawn0 w w')
  case atStart => exact ⟨(2166136261), (0), (by first | rfl | (simp; done) | (simp [*]; done)), (by first | rfl | (simp; done) | (simp [*]; done)), H', ⟨Nat.le_refl _⟩, by repeat (first | exact Drawn0.refl _ | apply Drawn0.step)⟩
  case round =>
    clear H'
    try clear c1
    obtain ⟨x3_1, x4_1, rfl, rfl, HA, HK1, ⟨m1, rfl⟩⟩ := hrel
    cases gk with
    | zero => exact absurd HA.out (by simp [impl_Hash.l0])
    | succ k1 =>
      have H := HA.out
      clear HA
      simp only [impl_Hash.l0] at H
      by_cases c2 : x4_1 < (a0.size : Int)
      · rw [if_pos c2] at H
        have c2b0 : decide (x4_1 < (a0.size : Int)) = true := decide_eq_true c2
        clear c2
        by_cases c3 : 0 ≤ x4_1
        · rw [if_pos c3] at H
          have c3b0 : decide (0 ≤ x4_1) = true := decide_eq_true c3
          clear c3
          have H' := Aside0.mk H
          clear H
          have p4 : 0 ≤ (x4_1 : Int) := of_decide_eq_true (by first | (with_reducible assumption) | assumption)
          have q4 : x4_1 < (a0.size : Int) := of_decide_eq_true (by first | (with_reducible assumption) | assumption)
          have hx4 := bt_at a0 x4_1
          replace p4 := eq_true p4
          replace q4 := eq_true q4
          go_wp2
          go_roundg k1
          case measure => have := HK1.out; omega
          case rel => exact ⟨(Int.tmod (wrap64 ((Go.bits .xor .i64 x3_1 (wrap64 (bt a0 x4_1))) * 16777619)) 4294967296), (wrap64 (x4_1 + 1)), (by first | rfl | (simp; done) | (simp [*]; done)), (by first | rfl | (simp; done) | (simp [*]; done)), H', ⟨by have := HK1.out; omega⟩, by repeat (first | exact Drawn0.refl _ | apply Drawn0.step)⟩
        · rw [if_neg c3] at H
          exact absurd H (by simp)
      · rw [if_neg c2] at H
        have c2b0 : decide (x4_1 < (a0.size : Int)) = false := decide_eq_false c2
        clear c2
        obtain rfl := Option.some.inj H
        go_wp2
        go_ret
        exact ⟨by first | rfl | (simp; done) | (simp [*]; done), by repeat (first | exact Drawn0.refl _ | apply Drawn0.step)⟩
def ixI (l : List Int) (h : Int) : Int := match l.findIdx? (fun x => x == h) with | some i => (i : Int) | none => -1
theorem ixI_hit (l : List Int) (h : Int) (i : Nat) (hi : i < l.length) (hp : (rd l i == h) = true) (hn : ∀ j : Nat, j < i → (rd l j == h) = false) : ixI l h = i := by
  have e : l.findIdx? (fun x => x == h) = some i := by
    rw [List.findIdx?_eq_some_iff_getElem]
    refine ⟨hi, ?_, fun j hj => ?_⟩
    · simpa [rd, List.getD_eq_getElem?_getD, List.getElem?_eq_getElem hi] using hp
    · have := hn j hj
      have hj' : j < l.length := by omega
      simp only [rd, List.getD_eq_getElem?_getD, Int.toNat_natCast, List.getElem?_eq_getElem hj', Option.getD_some] at this
      simpa using this
  unfold ixI
  rw [e]
theorem ixI_miss (l : List Int) (h : Int) (hn : ∀ j : Nat, j < l.length → (rd l j == h) = false) : ixI l h = -1 := by
  have e : l.findIdx? (fun x => x == h) = none := by
    rw [List.findIdx?_eq_none_iff]
    intro x hx
    obtain ⟨j, hj, rfl⟩ := List.mem_iff_getElem.1 hx
    have := hn j hj
    simpa only [rd, List.getD_eq_getElem?_getD, Int.toNat_natCast, List.getElem?_eq_getElem hj, Option.getD_some] using this
  unfold ixI
  rw [e]
theorem ixI_cases (l : List Int) (h : Int) : (ixI l h = -1 ∧ ∀ x ∈ l, x ≠ h) ∨ ∃ i : Nat, ∃ hi : i < l.length, ixI l h = i ∧ l[i] = h ∧ ∀ x ∈ l.take i, x ≠ h := by
  unfold ixI
  cases e : l.findIdx? (fun x => x == h) with
  | none =>
    rw [List.findIdx?_eq_none_iff] at e
    exact .inl ⟨rfl, fun x hx => by have := e x hx; simpa using this⟩
  | some i =>
    rw [List.findIdx?_eq_some_iff_getElem] at e
    obtain ⟨hi, hp, hn⟩ := e
    refine .inr ⟨i, hi, rfl, by simpa using hp, fun x hx => ?_⟩
    obtain ⟨j, hj, rfl⟩ := List.mem_iff_getElem.1 hx
    rw [List.length_take] at hj
    rw [List.getElem_take]
    have := hn j (by omega)
    simpa using this
theorem Q_spare {α : Type} {d : Kd α} {e : Nat} {w : World} {base m g o c off : Nat} {xs : List α} {ok : Nat → Prop} (vs : List Value) (hv : 0 < vs.length) (h : d.Q e w base ok (.slice (some ⟨g, o, none⟩) m c) xs) (ho : o + m * d.sz ≤ off) (hfit : off + vs.length ≤ o + c * d.sz) :
    d.Q e (w.setCells g off vs) base ok (.slice (some ⟨g, o, none⟩) m c) xs ∧ w.grownBy (w.setCells g off vs) (some g) := by
  obtain ⟨hok, inner, hq, hr⟩ := h
  have hmm := hq.2
  have hm : m = xs.length := by
    rcases hmm with ⟨h0, A, hv, _⟩ | ⟨g', off', cap', cur, hv, _⟩
    · injection hv with _ hl _; omega
    · injection hv with _ hl _
  rcases hmm with ⟨h0, A, hv', _⟩ | ⟨g', off', cap', cur, hv', hb, hh, hnc, hcm, hcs, htake⟩
  · injection hv' with _ _ hc
    subst hc
    simp at hfit
    omega
  · injection hv' with ha hl hc
    injection ha with ha
    injection ha with hg ho'
    subst hg; subst hc; subst ho'
    have hcs' : cur.size = off' * d.sz + c * d.sz := by rw [hcs, Nat.add_mul]
    obtain ⟨cur', h3, h4, h5⟩ := setCells_row vs off w cur hh (by rw [hcs']; exact hfit)
    obtain ⟨s1, s2, s3, s4⟩ := setCells_same g vs off w
    refine ⟨⟨hok, inner, ⟨hq.1, .inr ⟨g, off', c, cur', by rw [hl], hb, h3, hnc, hcm, by rw [h4, hcs], ?_⟩⟩, hr.imp_ (fun p q hp => d.M_mono (fun k hk => hk) (d.M_move (fun k' hk' => setCells_far vs off k' (fun he => hk'.2 (by simp [Value.ownBlock, he]))) hp))⟩, ⟨s1, s2, s3, by rw [s4]; exact Nat.le_refl _, fun k' _ hk' => setCells_far vs off k' (fun he => hk' (by rw [he]))⟩⟩
    rw [h5]
    have hl' : cur.toList.length = off' * d.sz + c * d.sz := by rw [Array.length_toList, hcs']
    have hoff : (cur.toList.take off).length = off := by rw [List.length_take, hl', Nat.min_eq_left (by omega)]
    rw [List.append_assoc, List.drop_append_of_le_length (by rw [hoff]; omega), List.take_append_of_le_length (by rw [List.length_drop, hoff, ← hl]; omega), List.drop_take, List.take_take, Nat.min_eq_left (by rw [← hl]; omega), htake]
set_option maxHeartbeats 8000000 in
set_option maxRecDepth 100000 in
theorem delI197.lit (x h : Int) (B : Nat) (w : World) (hB : w.cell? ⟨B, 0, none⟩ = some (.int .i64 h)) :
    Calls Try.prog 197 #[.int .i64 x, .pointer (some ⟨B, 0, none⟩)] w fun e w' => e = .returned (.bool (x == h)) ∧ Drawn0 w w' := by
  go_enter Try.func197, Try.ntmps197
  go_wp2
  go_ret
  exact ⟨rfl, Drawn0.refl _⟩
set_option maxHeartbeats 8000000 in
set_option maxRecDepth 100000 in
theorem delI197.ix (A0 : Option Addr) (c0 : Nat) (l0 : List Int) (h : Int) (B : Nat) (w : World) (hr0 : Kd.C (Kd.int .i64) w A0 l0.length l0) (hB : w.cell? ⟨B, 0, none⟩ = some (.int .i64 h)) :
    Calls Try.prog 189 #[.slice A0 l0.length c0, .func (.func 197) #[] #[.pointer (some ⟨B, 0, none⟩)]] w fun e w' => e = .returned (.int .i64 (ixI l0 h)) ∧ Below w.heap.size w w' := by
  have HR0 := Aside0.mk hr0
  have hm : l0.length ≤ 9223372036854775807 := hr0.2.1
  have HK := Aside0.mk hB
  clear hr0 hB
  go_enter Try.func189, Try.ntmps189
  go_wp2
  go_loopg [8] (l0.length + 1) (fun kq v8 w' => ∃ x : Int, v8 = .int .i64 x ∧ Aside0 (0 ≤ x ∧ x + kq = l0.length + 1) ∧ Aside0 (∀ j : Nat, j < x.toNat → (rd l0 j == h) = false) ∧ Aside0 (Below w.heap.size w w'))
  case atStart => exact ⟨0, rfl, ⟨by omega⟩, ⟨fun j hj => by simp at hj⟩, ⟨Below.refl _ _⟩⟩
  case round =>
    obtain ⟨x, rfl, HI, HN, HB⟩ := hrel
    by_cases hlt : x < l0.length
    · have p1 : 0 ≤ x := HI.out.1
      have q1 := hlt
      obtain ⟨ad, e1, hx0⟩ := Kd.at_int HR0.out x p1 q1
      cases e1
      replace hx0 := (HB.out.cell (World.block_lt_of_cell? w _ hx0)).trans hx0
      have HK2 := Aside0.mk ((HB.out.cell (World.block_lt_of_cell? w _ HK.out)).trans HK.out)
      have W1 := Aside0.mk (show wrap64 (x + 1) = x + 1 by unfold wrap64; omega)
      have Q1 := Aside0.mk q1
      replace hlt := eq_true hlt
      replace p1 := eq_true p1
      replace q1 := eq_true q1
      have hm1 := Aside0.mk hm
      clear hm
      obtain ⟨k1, rfl⟩ : ∃ k1, gk = k1 + 1 := ⟨gk - 1, by have := HI.out; have := Q1.out; omega⟩
      go_wp2_with ((refine (delI197.lit (rd l0 x) h B _ HK2.out).mono ?_); rintro e w1 ⟨rfl, ⟨nd, rfl⟩⟩)
      · have hp : (rd l0 x == h) = true := by assumption
        have hx := HI.out.1
        obtain ⟨i, rfl⟩ := Int.eq_ofNat_of_zero_le hx
        have hi := ixI_hit l0 h i (by have := Q1.out; omega) hp (fun j hj => HN.out j (by simpa using hj))
        go_ret
        exact ⟨by rw [hi]; rfl, pw_below_drewN HB.out nd⟩
      · have hp : (rd l0 x == h) = false := by assumption
        have HP := Aside0.mk hp
        clear hp
        go_roundg k1
        case measure => omega
        case rel =>
          have hx := HI.out
          refine ⟨wrap64 (x + 1), rfl, ⟨by have := W1.out; omega⟩, ⟨fun j hj => ?_⟩, ⟨pw_below_drewN HB.out nd⟩⟩
          rw [W1.out] at hj
          by_cases hjx : j < x.toNat
          · exact HN.out j hjx
          · have : (j : Int) = x := by omega
            rw [this]; exact HP.out
    · have hge := hlt
      have HG := Aside0.mk hge
      have hd : decide (x < (l0.length : Int)) = false := decide_eq_false hge
      clear hlt hge
      have hi := Aside0.mk (ixI_miss l0 h (fun j hj => HN.out j (by have := HI.out; have := HG.out; omega)))
      go_wp2
      go_ret
      exact ⟨by rw [hi.out]; rfl, HB.out⟩
set_option maxHeartbeats 8000000 in
set_option maxRecDepth 100000 in
theorem delI197.found (g o c i0 base B : Nat) (l : List Int) (h : Int) (ok : Nat → Prop) (w0 w : World) (HQ : Kd.Q (Kd.int .i64) 3 w base ok (.slice (some ⟨g, o, none⟩) l.length c) l) (hi : i0 < l.length) (hx : ixI l h = i0) (hat : l.take (i0 + 1) = l.take i0 ++ [h]) (hn : ∀ x ∈ l.take i0, x ≠ h)
    (hB : w.cell? ⟨B, 0, none⟩ = some (.int .i64 h)) (hBg : B ≠ g) (HB : Below base w0 w) (hbase : base ≤ w.heap.size) (hl : l.length < 1000000) :
    Calls Try.prog 161 #[.slice (some ⟨g, o, none⟩) l.length c, .func (.func 197) #[] #[.pointer (some ⟨B, 0, none⟩)]] w fun e w' => ∃ m, e = .returned (.slice (some ⟨g, o, none⟩) m c) ∧ Kd.Q (Kd.int .i64) 3 w' base ok (.slice (some ⟨g, o, none⟩) m c) (l.filter (fun x => x != h)) ∧ Below base w0 w' ∧ w.grownBy w' (some g) := by
  obtain ⟨_, hnc, hC⟩ := Kd.Q_reads' HQ
  have HQ1 := Aside0.mk HQ
  have HC := Aside0.mk hC
  have HNC := Aside0.mk hnc
  have HX := Aside0.mk hx
  have HI := Aside0.mk hi
  have HAT := Aside0.mk hat
  have HN := Aside0.mk hn
  have HK := Aside0.mk hB
  have HNE := Aside0.mk hBg
  have HB0 := Aside0.mk HB
  have HS := Aside0.mk hbase
  have HL := Aside0.mk hl
  clear HQ hnc hC hx hi hat hn hB hBg HB hbase hl
  have e0 : ((i0 : Int) == -1) = false := beq_eq_false_iff_ne.mpr (by omega)
  have W0 : wrap64 ((i0 : Int) + 1) = ((i0 + 1 : Nat) : Int) := by have := HI.out; have := HL.out; unfold wrap64; omega
  have HW0 := Aside0.mk W0
  clear W0
  go_enter Try.func161, Try.ntmps161
  go_wp2_with (first | (go_at_call 189; (with_reducible refine (delI197.ix (some ⟨g, o, none⟩) c l h B _ HC.out HK.out).mono ?_); rw [HX.out]; rintro e w1 ⟨rfl, hb⟩; have HQ2 := Aside0.mk (Kd.Q_below HQ1.out hb); have HK2 := Aside0.mk (pw_cell_below hb HK.out); have HB1 := Aside0.mk (below_then HB0.out HS.out hb); have HG1 := Aside0.mk (grown_of_below hb (some g)); clear hb))
  go_loopg [5, 6] (l.length + 1) (fun kq v5 v6 w' => ∃ (i j : Nat) (xs : List Int), v5 = .int .i64 i ∧ v6 = .int .i64 j ∧ Aside0 (i < j ∧ j ≤ l.length ∧ j + kq = l.length + 1 + (i0 + 1)) ∧ Aside0 (xs.length = l.length) ∧ Aside0 (xs.drop j = l.drop j) ∧ Aside0 (xs.take i = (l.take j).filter (fun x => x != h)) ∧ Aside0 (Kd.Q (Kd.int .i64) 3 w' base ok (.slice (some ⟨g, o, none⟩) l.length c) xs) ∧ Aside0 (w'.cell? ⟨B, 0, none⟩ = some (.int .i64 h)) ∧ Aside0 (Below base w0 w') ∧ Aside0 (w.grownBy w' (some g)))
  case atStart =>
    refine ⟨i0, i0 + 1, l, rfl, by rw [HW0.out], ⟨by have := HI.out; omega⟩, ⟨rfl⟩, ⟨rfl⟩, ⟨?_⟩, HQ2, HK2, HB1, HG1⟩
    rw [HAT.out, List.filter_append]
    have : (l.take i0).filter (fun x => x != h) = l.take i0 := List.filter_eq_self.mpr (fun x hx => by simpa using HN.out x hx)
    rw [this]; simp
  case round =>
    clear HQ2 HK2 HB1 HG1
    obtain ⟨i, j, xs, rfl, rfl, HIJ, HLE, HDR, HTK, HQ2, HK2, HB1, HG1⟩ := hrel
    by_cases hlt : (j : Int) < (l.length : Int)
    · have hjl : j < l.length := by omega
      have hjx : j < xs.length := by have := HLE.out; omega
      have hx0 := (Kd.Q_cell 0 HQ2.out (j : Int) (by omega) (by omega)).1
      rw [Int.toNat_natCast] at hx0
      obtain ⟨x, hxx⟩ : ∃ x, x = rdOf 0 xs (j : Int) := ⟨_, rfl⟩
      rw [← hxx] at hx0
      have hxi : l[j] = x := by
        have h1 : xs[j] = x := by rw [hxx]; simp [rdOf, hjx]
        have h2 := HDR.out
        rw [List.drop_eq_getElem_cons hjl, List.drop_eq_getElem_cons hjx] at h2
        injection h2 with h2 _
        rw [← h2, h1]
      have HD1 : Aside0 (xs.drop (j + 1) = l.drop (j + 1)) := ⟨by rw [← List.drop_drop, HDR.out, List.drop_drop]⟩
      have HT1 : Aside0 ((l.take (j + 1)).filter (fun x => x != h) = xs.take i ++ [x].filter (fun x => x != h)) := ⟨by rw [List.take_succ_eq_append_getElem hjl, hxi, List.filter_append, HTK.out]⟩
      have HLT := Aside0.mk hjl
      have q1 : ((j : Int) < (l.length : Int)) = True := eq_true hlt
      have q2 : (j < l.length) = True := eq_true hjl
      have W1 := Aside0.mk (show wrap64 ((j : Int) + 1) = ((j + 1 : Nat) : Int) by have := HL.out; unfold wrap64; omega)
      have W2 := Aside0.mk (show wrap64 ((i : Int) + 1) = ((i + 1 : Nat) : Int) by have := HL.out; have := HIJ.out; unfold wrap64; omega)
      have q3 : ((i : Int) < (l.length : Int)) = True := eq_true (by have := HIJ.out; omega)
      have q4 : (i < l.length) = True := eq_true (by have := HIJ.out; omega)
      have hcell := Kd.Q_cell 0 HQ2.out (i : Int) (by omega) (by have := HIJ.out; omega)
      rw [Int.toNat_natCast] at hcell
      obtain ⟨hc1, hc2⟩ := hcell
      have HCL := Aside0.mk hc1
      have HFR := Aside0.mk hc2
      clear hxx hxi hlt hjl hc1 hc2 HDR HTK hjx
      obtain ⟨k1, rfl⟩ : ∃ k1, gk = k1 + 1 := ⟨gk - 1, by have := HIJ.out; have := HLT.out; omega⟩
      by_cases hxh : x = h
      · have hb1 : (x == h) = true := beq_iff_eq.mpr hxh
        have HXH := Aside0.mk hxh
        clear hxh
        go_wp2_with ((refine (delI197.lit x h B _ HK2.out).mono ?_); rw [hb1]; rintro e w1 ⟨rfl, ⟨nd, rfl⟩⟩)
        go_roundg k1
        case measure => omega
        case rel => exact ⟨i, j + 1, xs, rfl, by rw [W1.out], ⟨by have := HIJ.out; have := HLT.out; omega⟩, HLE, HD1, ⟨by rw [HT1.out]; simp [HXH.out]⟩, ⟨Kd.Q_drewN HQ2.out nd⟩, ⟨HK2.out⟩, ⟨pw_below_drewN HB1.out nd⟩, ⟨⟨HG1.out.os, HG1.out.tape, HG1.out.output, HG1.out.size, HG1.out.block⟩⟩⟩
      · have hb1 : (x == h) = false := beq_eq_false_iff_ne.mpr hxh
        have HXH := Aside0.mk hxh
        clear hxh
        have c1 := HCL.out
        have c2 := HFR.out
        go_wp2_with ((refine (delI197.lit x h B _ HK2.out).mono ?_); rw [hb1]; rintro e w1 ⟨rfl, ⟨nd, rfl⟩⟩)
        obtain ⟨P1, P2⟩ := Kd.Q_putg (Kd.Q_drewN HQ2.out nd) (i : Int) (by omega) (by have := HIJ.out; omega) x
        rw [Int.toNat_natCast] at P1 P2
        have HP1 := Aside0.mk P1
        have HP2 := Aside0.mk P2
        clear P1 P2
        go_roundg k1
        case measure => omega
        case rel =>
          have hij := HIJ.out
          refine ⟨i + 1, j + 1, xs.set i x, by rw [W2.out], by rw [W1.out], ⟨by have := HLT.out; omega⟩, ⟨by rw [List.length_set]; exact HLE.out⟩, ⟨?_⟩, ⟨?_⟩, ⟨HP1.out⟩, ⟨?_⟩, ⟨?_⟩, ⟨?_⟩⟩
          · rw [List.drop_set_of_lt (by omega)]; exact HD1.out
          · rw [HT1.out, List.take_succ_eq_append_getElem (by rw [List.length_set, HLE.out]; omega), List.take_set_of_le (by omega), List.getElem_set_self]
            simp [HXH.out]
          · exact (cell_far (p := ⟨g, o + i, none⟩) HNE.out _).trans HK2.out
          · exact (pw_below_drewN HB1.out nd).setCell (Kd.Q_base HQ1.out g (by simp [Value.ownBlock])) _
          · exact (show w.grownBy (wr.drewN nd) (some g) from ⟨HG1.out.os, HG1.out.tape, HG1.out.output, HG1.out.size, HG1.out.block⟩).trans HP2.out
    · have hjl : j = l.length := by have := HIJ.out; omega
      subst hjl
      have hT := HTK.out
      rw [List.take_length] at hT
      have hil : i < l.length := HIJ.out.1
      have hnc := (Kd.Q_reads' HQ2.out).2.1
      have HIL := Aside0.mk hil
      have HTF := Aside0.mk hT
      have HNC2 := Aside0.mk hnc
      have hcutA := cut_from (P := Try.prog) 63 3 .i64 Try.underlying63 (info_parts info3).choose_spec.1 1 (info_parts info3).choose_spec.2.2.1 (some ⟨g, o, none⟩) l.length c (i : Int) (by omega) (by omega)
      rw [Int.toNat_natCast, if_neg (by omega), Option.map_some, Nat.mul_one, show (⟨g, o, none⟩ : Addr).add i = ⟨g, o + i, none⟩ from add_at g o i] at hcutA
      have hcutB := cut_to (P := Try.prog) 63 3 .i64 Try.underlying63 (info_parts info3).choose_spec.1 (some ⟨g, o, none⟩) l.length c (i : Int) (by omega) (by omega) hnc
      rw [Int.toNat_natCast] at hcutB
      have hcell : ∀ j, j < l.length - i → (wr.cell? ⟨g, o + i + j, none⟩).isSome = true ∧ wr.frozen? ⟨g, o + i + j, none⟩ = false := by
        intro j hj
        have h := Kd.Q_cell 0 HQ2.out ((i + j : Nat) : Int) (by omega) (by omega)
        rw [Int.toNat_natCast, ← Nat.add_assoc] at h
        exact ⟨by rw [h.1]; rfl, h.2⟩
      have hcl := Lib.run_clear_slice (P := Try.prog) wr 63 3 0 (.int .i64 0) Try.underlying63 (fun w => by kernel_rfl) rfl rfl g (o + i) (l.length - i) (c - i) (by omega) (fun j hj => (hcell j hj).1) (fun j hj => (hcell j hj).2)
      clear hcell hT hil hnc hlt
      go_wp2
      go_ret
      obtain ⟨R1, R2⟩ := Q_spare (List.replicate (l.length - i) (.int .i64 0)) (by rw [List.length_replicate]; have := HIL.out; omega) (Kd.Q_take (m := i) HQ2.out (by have := HLE.out; have := HIL.out; omega)) (off := o + i) (by rw [show (Kd.int .i64).sz = 1 from rfl, Nat.mul_one]; exact Nat.le_refl _) (by rw [List.length_replicate, show (Kd.int .i64).sz = 1 from rfl, Nat.mul_one]; have := HNC2.out; have := HIL.out; omega)
      rw [HTF.out] at R1
      exact ⟨i, rfl, R1, HB1.out.grown R2 (Nat.le_trans HS.out HG1.out.size) (fun k hk => by injection hk with hk; subst hk; exact Kd.Q_base HQ1.out g (by simp [Value.ownBlock])), HG1.out.trans R2⟩
set_option maxHeartbeats 8000000 in
set_option maxRecDepth 100000 in
theorem delI197.miss (A : Option Addr) (c B : Nat) (l : List Int) (h : Int) (w : World) (hC : Kd.C (Kd.int .i64) w A l.length l) (hx : ixI l h = -1) (hB : w.cell? ⟨B, 0, none⟩ = some (.int .i64 h)) :
    Calls Try.prog 161 #[.slice A l.length c, .func (.func 197) #[] #[.pointer (some ⟨B, 0, none⟩)]] w fun e w' => e = .returned (.slice A l.length c) ∧ Below w.heap.size w w' := by
  have HC := Aside0.mk hC
  have HX := Aside0.mk hx
  have HK := Aside0.mk hB
  clear hC hx hB
  go_enter Try.func161, Try.ntmps161
  go_wp2_with (first | (go_at_call 189; (with_reducible refine (delI197.ix A c l h B _ HC.out HK.out).mono ?_); rw [HX.out]; rintro e w1 ⟨rfl, hb⟩; have HB1 := Aside0.mk hb; clear hb))
  go_ret
  exact ⟨rfl, HB1.out⟩
theorem delI197.own (A : Option Addr) (c base B : Nat) (l : List Int) (h : Int) (ok : Nat → Prop) (w0 w : World) (HQ : Kd.Q (Kd.int .i64) 3 w base ok (.slice A l.length c) l)
    (hB : w.cell? ⟨B, 0, none⟩ = some (.int .i64 h)) (hBg : some B ≠ (Value.slice A l.length c).ownBlock) (HB : Below base w0 w) (hbase : base ≤ w.heap.size) (hl : l.length < 1000000) :
    Calls Try.prog 161 #[.slice A l.length c, .func (.func 197) #[] #[.pointer (some ⟨B, 0, none⟩)]] w fun e w' => ∃ v, e = .returned v ∧ Kd.Q (Kd.int .i64) 3 w' base ok v (l.filter (fun x => x != h)) ∧ Below base w0 w' ∧ w.grownBy w' (Value.slice A l.length c).ownBlock ∧ v.ownBlock = (Value.slice A l.length c).ownBlock := by
  rcases ixI_cases l h with ⟨hx, hn⟩ | ⟨i, hi, hx, hat, hn⟩
  · refine (delI197.miss A c B l h w (Kd.Q_reads' HQ).2.2 hx hB).mono ?_
    rintro e w1 ⟨rfl, hb⟩
    refine ⟨_, rfl, ?_, below_then HB hbase hb, grown_of_below hb _, rfl⟩
    rw [List.filter_eq_self.mpr (fun x hx => by simpa using hn x hx)]
    exact Kd.Q_below HQ hb
  · obtain ⟨g, o, cap, hv, _, _, _⟩ := Kd.Q_form HQ (by omega)
    injection hv with ha _ hc
    subst ha; subst hc
    refine (delI197.found g o c i base B l h ok w0 w HQ hi hx (by rw [List.take_succ_eq_append_getElem hi, hat]) hn hB (fun he => hBg (by rw [he]; rfl)) HB hbase hl).mono ?_
    rintro e w1 ⟨m, rfl, hq, hb, hg⟩
    exact ⟨_, rfl, hq, hb, hg, rfl⟩
set_option maxHeartbeats 8000000 in
set_option maxRecDepth 100000 in
theorem delI162.lit (x h : Int) (B : Nat) (w : World) (hB : w.cell? ⟨B, 0, none⟩ = some (.int .i64 h)) :
    Calls Try.prog 162 #[.int .i64 x, .pointer (some ⟨B, 0, none⟩)] w fun e w' => e = .returned (.bool (x == h)) ∧ Drawn0 w w' := by
  go_enter Try.func162, Try.ntmps162
  go_wp2
  go_ret
  exact ⟨rfl, Drawn0.refl _⟩
set_option maxHeartbeats 8000000 in
set_option maxRecDepth 100000 in
theorem delI162.ix (A0 : Option Addr) (c0 : Nat) (l0 : List Int) (h : Int) (B : Nat) (w : World) (hr0 : Kd.C (Kd.int .i64) w A0 l0.length l0) (hB : w.cell? ⟨B, 0, none⟩ = some (.int .i64 h)) :
    Calls Try.prog 189 #[.slice A0 l0.length c0, .func (.func 162) #[] #[.pointer (some ⟨B, 0, none⟩)]] w fun e w' => e = .returned (.int .i64 (ixI l0 h)) ∧ Below w.heap.size w w' := by
  have HR0 := Aside0.mk hr0
  have hm : l0.length ≤ 9223372036854775807 := hr0.2.1
  have HK := Aside0.mk hB
  clear hr0 hB
  go_enter Try.func189, Try.ntmps189
  go_wp2
  go_loopg [8] (l0.length + 1) (fun kq v8 w' => ∃ x : Int, v8 = .int .i64 x ∧ Aside0 (0 ≤ x ∧ x + kq = l0.length + 1) ∧ Aside0 (∀ j : Nat, j < x.toNat → (rd l0 j == h) = false) ∧ Aside0 (Below w.heap.size w w'))
  case atStart => exact ⟨0, rfl, ⟨by omega⟩, ⟨fun j hj => by simp at hj⟩, ⟨Below.refl _ _⟩⟩
  case round =>
    obtain ⟨x, rfl, HI, HN, HB⟩ := hrel
    by_cases hlt : x < l0.length
    · have p1 : 0 ≤ x := HI.out.1
      have q1 := hlt
      obtain ⟨ad, e1, hx0⟩ := Kd.at_int HR0.out x p1 q1
      cases e1
      replace hx0 := (HB.out.cell (World.block_lt_of_cell? w _ hx0)).trans hx0
      have HK2 := Aside0.mk ((HB.out.cell (World.block_lt_of_cell? w _ HK.out)).trans HK.out)
      have W1 := Aside0.mk (show wrap64 (x + 1) = x + 1 by unfold wrap64; omega)
      have Q1 := Aside0.mk q1
      replace hlt := eq_true hlt
      replace p1 := eq_true p1
      replace q1 := eq_true q1
      have hm1 := Aside0.mk hm
      clear hm
      obtain ⟨k1, rfl⟩ : ∃ k1, gk = k1 + 1 := ⟨gk - 1, by have := HI.out; have := Q1.out; omega⟩
      go_wp2_with ((refine (delI162.lit (rd l0 x) h B _ HK2.out).mono ?_); rintro e w1 ⟨rfl, ⟨nd, rfl⟩⟩)
      · have hp : (rd l0 x == h) = true := by assumption
        have hx := HI.out.1
        obtain ⟨i, rfl⟩ := Int.eq_ofNat_of_zero_le hx
        have hi := ixI_hit l0 h i (by have := Q1.out; omega) hp (fun j hj => HN.out j (by simpa using hj))
        go_ret
        exact ⟨by rw [hi]; rfl, pw_below_drewN HB.out nd⟩
      · have hp : (rd l0 x == h) = false := by assumption
        have HP := Aside0.mk hp
        clear hp
        go_roundg k1
        case measure => omega
        case rel =>
          have hx := HI.out
          refine ⟨wrap64 (x + 1), rfl, ⟨by have := W1.out; omega⟩, ⟨fun j hj => ?_⟩, ⟨pw_below_drewN HB.out nd⟩⟩
          rw [W1.out] at hj
          by_cases hjx : j < x.toNat
          · exact HN.out j hjx
          · have : (j : Int) = x := by omega
            rw [this]; exact HP.out
    · have hge := hlt
      have HG := Aside0.mk hge
      have hd : decide (x < (l0.length : Int)) = false := decide_eq_false hge
      clear hlt hge
      have hi := Aside0.mk (ixI_miss l0 h (fun j hj => HN.out j (by have := HI.out; have := HG.out; omega)))
      go_wp2
      go_ret
      exact ⟨by rw [hi.out]; rfl, HB.out⟩
set_option maxHeartbeats 8000000 in
set_option maxRecDepth 100000 in
theorem delI162.found (g o c i0 base B : Nat) (l : List Int) (h : Int) (ok : Nat → Prop) (w0 w : World) (HQ : Kd.Q (Kd.int .i64) 3 w base ok (.slice (some ⟨g, o, none⟩) l.length c) l) (hi : i0 < l.length) (hx : ixI l h = i0) (hat : l.take (i0 + 1) = l.take i0 ++ [h]) (hn : ∀ x ∈ l.take i0, x ≠ h)
    (hB : w.cell? ⟨B, 0, none⟩ = some (.int .i64 h)) (hBg : B ≠ g) (HB : Below base w0 w) (hbase : base ≤ w.heap.size) (hl : l.length < 1000000) :
    Calls Try.prog 161 #[.slice (some ⟨g, o, none⟩) l.length c, .func (.func 162) #[] #[.pointer (some ⟨B, 0, none⟩)]] w fun e w' => ∃ m, e = .returned (.slice (some ⟨g, o, none⟩) m c) ∧ Kd.Q (Kd.int .i64) 3 w' base ok (.slice (some ⟨g, o, none⟩) m c) (l.filter (fun x => x != h)) ∧ Below base w0 w' ∧ w.grownBy w' (some g) := by
  obtain ⟨_, hnc, hC⟩ := Kd.Q_reads' HQ
  have HQ1 := Aside0.mk HQ
  have HC := Aside0.mk hC
  have HNC := Aside0.mk hnc
  have HX := Aside0.mk hx
  have HI := Aside0.mk hi
  have HAT := Aside0.mk hat
  have HN := Aside0.mk hn
  have HK := Aside0.mk hB
  have HNE := Aside0.mk hBg
  have HB0 := Aside0.mk HB
  have HS := Aside0.mk hbase
  have HL := Aside0.mk hl
  clear HQ hnc hC hx hi hat hn hB hBg HB hbase hl
  have e0 : ((i0 : Int) == -1) = false := beq_eq_false_iff_ne.mpr (by omega)
  have W0 : wrap64 ((i0 : Int) + 1) = ((i0 + 1 : Nat) : Int) := by have := HI.out; have := HL.out; unfold wrap64; omega
  have HW0 := Aside0.mk W0
  clear W0
  go_enter Try.func161, Try.ntmps161
  go_wp2_with (first | (go_at_call 189; (with_reducible refine (delI162.ix (some ⟨g, o, none⟩) c l h B _ HC.out HK.out).mono ?_); rw [HX.out]; rintro e w1 ⟨rfl, hb⟩; have HQ2 := Aside0.mk (Kd.Q_below HQ1.out hb); have HK2 := Aside0.mk (pw_cell_below hb HK.out); have HB1 := Aside0.mk (below_then HB0.out HS.out hb); have HG1 := Aside0.mk (grown_of_below hb (some g)); clear hb))
  go_loopg [5, 6] (l.length + 1) (fun kq v5 v6 w' => ∃ (i j : Nat) (xs : List Int), v5 = .int .i64 i ∧ v6 = .int .i64 j ∧ Aside0 (i < j ∧ j ≤ l.length ∧ j + kq = l.length + 1 + (i0 + 1)) ∧ Aside0 (xs.length = l.length) ∧ Aside0 (xs.drop j = l.drop j) ∧ Aside0 (xs.take i = (l.take j).filter (fun x => x != h)) ∧ Aside0 (Kd.Q (Kd.int .i64) 3 w' base ok (.slice (some ⟨g, o, none⟩) l.length c) xs) ∧ Aside0 (w'.cell? ⟨B, 0, none⟩ = some (.int .i64 h)) ∧ Aside0 (Below base w0 w') ∧ Aside0 (w.grownBy w' (some g)))
  case atStart =>
    refine ⟨i0, i0 + 1, l, rfl, by rw [HW0.out], ⟨by have := HI.out; omega⟩, ⟨rfl⟩, ⟨rfl⟩, ⟨?_⟩, HQ2, HK2, HB1, HG1⟩
    rw [HAT.out, List.filter_append]
    have : (l.take i0).filter (fun x => x != h) = l.take i0 := List.filter_eq_self.mpr (fun x hx => by simpa using HN.out x hx)
    rw [this]; simp
  case round =>
    clear HQ2 HK2 HB1 HG1
    obtain ⟨i, j, xs, rfl, rfl, HIJ, HLE, HDR, HTK, HQ2, HK2, HB1, HG1⟩ := hrel
    by_cases hlt : (j : Int) < (l.length : Int)
    · have hjl : j < l.length := by omega
      have hjx : j < xs.length := by have := HLE.out; omega
      have hx0 := (Kd.Q_cell 0 HQ2.out (j : Int) (by omega) (by omega)).1
      rw [Int.toNat_natCast] at hx0
      obtain ⟨x, hxx⟩ : ∃ x, x = rdOf 0 xs (j : Int) := ⟨_, rfl⟩
      rw [← hxx] at hx0
      have hxi : l[j] = x := by
        have h1 : xs[j] = x := by rw [hxx]; simp [rdOf, hjx]
        have h2 := HDR.out
        rw [List.drop_eq_getElem_cons hjl, List.drop_eq_getElem_cons hjx] at h2
        injection h2 with h2 _
        rw [← h2, h1]
      have HD1 : Aside0 (xs.drop (j + 1) = l.drop (j + 1)) := ⟨by rw [← List.drop_drop, HDR.out, List.drop_drop]⟩
      have HT1 : Aside0 ((l.take (j + 1)).filter (fun x => x != h) = xs.take i ++ [x].filter (fun x => x != h)) := ⟨by rw [List.take_succ_eq_append_getElem hjl, hxi, List.filter_append, HTK.out]⟩
      have HLT := Aside0.mk hjl
      have q1 : ((j : Int) < (l.length : Int)) = True := eq_true hlt
      have q2 : (j < l.length) = True := eq_true hjl
      have W1 := Aside0.mk (show wrap64 ((j : Int) + 1) = ((j + 1 : Nat) : Int) by have := HL.out; unfold wrap64; omega)
      have W2 := Aside0.mk (show wrap64 ((i : Int) + 1) = ((i + 1 : Nat) : Int) by have := HL.out; have := HIJ.out; unfold wrap64; omega)
      have q3 : ((i : Int) < (l.length : Int)) = True := eq_true (by have := HIJ.out; omega)
      have q4 : (i < l.length) = True := eq_true (by have := HIJ.out; omega)
      have hcell := Kd.Q_cell 0 HQ2.out (i : Int) (by omega) (by have := HIJ.out; omega)
      rw [Int.toNat_natCast] at hcell
      obtain ⟨hc1, hc2⟩ := hcell
      have HCL := Aside0.mk hc1
      have HFR := Aside0.mk hc2
      clear hxx hxi hlt hjl hc1 hc2 HDR HTK hjx
      obtain ⟨k1, rfl⟩ : ∃ k1, gk = k1 + 1 := ⟨gk - 1, by have := HIJ.out; have := HLT.out; omega⟩
      by_cases hxh : x = h
      · have hb1 : (x == h) = true := beq_iff_eq.mpr hxh
        have HXH := Aside0.mk hxh
        clear hxh
        go_wp2_with ((refine (delI162.lit x h B _ HK2.out).mono ?_); rw [hb1]; rintro e w1 ⟨rfl, ⟨nd, rfl⟩⟩)
        go_roundg k1
        case measure => omega
        case rel => exact ⟨i, j + 1, xs, rfl, by rw [W1.out], ⟨by have := HIJ.out; have := HLT.out; omega⟩, HLE, HD1, ⟨by rw [HT1.out]; simp [HXH.out]⟩, ⟨Kd.Q_drewN HQ2.out nd⟩, ⟨HK2.out⟩, ⟨pw_below_drewN HB1.out nd⟩, ⟨⟨HG1.out.os, HG1.out.tape, HG1.out.output, HG1.out.size, HG1.out.block⟩⟩⟩
      · have hb1 : (x == h) = false := beq_eq_false_iff_ne.mpr hxh
        have HXH := Aside0.mk hxh
        clear hxh
        have c1 := HCL.out
        have c2 := HFR.out
        go_wp2_with ((refine (delI162.lit x h B _ HK2.out).mono ?_); rw [hb1]; rintro e w1 ⟨rfl, ⟨nd, rfl⟩⟩)
        obtain ⟨P1, P2⟩ := Kd.Q_putg (Kd.Q_drewN HQ2.out nd) (i : Int) (by omega) (by have := HIJ.out; omega) x
        rw [Int.toNat_natCast] at P1 P2
        have HP1 := Aside0.mk P1
        have HP2 := Aside0.mk P2
        clear P1 P2
        go_roundg k1
        case measure => omega
        case rel =>
          have hij := HIJ.out
          refine ⟨i + 1, j + 1, xs.set i x, by rw [W2.out], by rw [W1.out], ⟨by have := HLT.out; omega⟩, ⟨by rw [List.length_set]; exact HLE.out⟩, ⟨?_⟩, ⟨?_⟩, ⟨HP1.out⟩, ⟨?_⟩, ⟨?_⟩, ⟨?_⟩⟩
          · rw [List.drop_set_of_lt (by omega)]; exact HD1.out
          · rw [HT1.out, List.take_succ_eq_append_getElem (by rw [List.length_set, HLE.out]; omega), List.take_set_of_le (by omega), List.getElem_set_self]
            simp [HXH.out]
          · exact (cell_far (p := ⟨g, o + i, none⟩) HNE.out _).trans HK2.out
          · exact (pw_below_drewN HB1.out nd).setCell (Kd.Q_base HQ1.out g (by simp [Value.ownBlock])) _
          · exact (show w.grownBy (wr.drewN nd) (some g) from ⟨HG1.out.os, HG1.out.tape, HG1.out.output, HG1.out.size, HG1.out.block⟩).trans HP2.out
    · have hjl : j = l.length := by have := HIJ.out; omega
      subst hjl
      have hT := HTK.out
      rw [List.take_length] at hT
      have hil : i < l.length := HIJ.out.1
      have hnc := (Kd.Q_reads' HQ2.out).2.1
      have HIL := Aside0.mk hil
      have HTF := Aside0.mk hT
      have HNC2 := Aside0.mk hnc
      have hcutA := cut_from (P := Try.prog) 63 3 .i64 Try.underlying63 (info_parts info3).choose_spec.1 1 (info_parts info3).choose_spec.2.2.1 (some ⟨g, o, none⟩) l.length c (i : Int) (by omega) (by omega)
      rw [Int.toNat_natCast, if_neg (by omega), Option.map_some, Nat.mul_one, show (⟨g, o, none⟩ : Addr).add i = ⟨g, o + i, none⟩ from add_at g o i] at hcutA
      have hcutB := cut_to (P := Try.prog) 63 3 .i64 Try.underlying63 (info_parts info3).choose_spec.1 (some ⟨g, o, none⟩) l.length c (i : Int) (by omega) (by omega) hnc
      rw [Int.toNat_natCast] at hcutB
      have hcell : ∀ j, j < l.length - i → (wr.cell? ⟨g, o + i + j, none⟩).isSome = true ∧ wr.frozen? ⟨g, o + i + j, none⟩ = false := by
        intro j hj
        have h := Kd.Q_cell 0 HQ2.out ((i + j : Nat) : Int) (by omega) (by omega)
        rw [Int.toNat_natCast, ← Nat.add_assoc] at h
        exact ⟨by rw [h.1]; rfl, h.2⟩
      have hcl := Lib.run_clear_slice (P := Try.prog) wr 63 3 0 (.int .i64 0) Try.underlying63 (fun w => by kernel_rfl) rfl rfl g (o + i) (l.length - i) (c - i) (by omega) (fun j hj => (hcell j hj).1) (fun j hj => (hcell j hj).2)
      clear hcell hT hil hnc hlt
      go_wp2
      go_ret
      obtain ⟨R1, R2⟩ := Q_spare (List.replicate (l.length - i) (.int .i64 0)) (by rw [List.length_replicate]; have := HIL.out; omega) (Kd.Q_take (m := i) HQ2.out (by have := HLE.out; have := HIL.out; omega)) (off := o + i) (by rw [show (Kd.int .i64).sz = 1 from rfl, Nat.mul_one]; exact Nat.le_refl _) (by rw [List.length_replicate, show (Kd.int .i64).sz = 1 from rfl, Nat.mul_one]; have := HNC2.out; have := HIL.out; omega)
      rw [HTF.out] at R1
      exact ⟨i, rfl, R1, HB1.out.grown R2 (Nat.le_trans HS.out HG1.out.size) (fun k hk => by injection hk with hk; subst hk; exact Kd.Q_base HQ1.out g (by simp [Value.ownBlock])), HG1.out.trans R2⟩
set_option maxHeartbeats 8000000 in
set_option maxRecDepth 100000 in
theorem delI162.miss (A : Option Addr) (c B : Nat) (l : List Int) (h : Int) (w : World) (hC : Kd.C (Kd.int .i64) w A l.length l) (hx : ixI l h = -1) (hB : w.cell? ⟨B, 0, none⟩ = some (.int .i64 h)) :
    Calls Try.prog 161 #[.slice A l.length c, .func (.func 162) #[] #[.pointer (some ⟨B, 0, none⟩)]] w fun e w' => e = .returned (.slice A l.length c) ∧ Below w.heap.size w w' := by
  have HC := Aside0.mk hC
  have HX := Aside0.mk hx
  have HK := Aside0.mk hB
  clear hC hx hB
  go_enter Try.func161, Try.ntmps161
  go_wp2_with (first | (go_at_call 189; (with_reducible refine (delI162.ix A c l h B _ HC.out HK.out).mono ?_); rw [HX.out]; rintro e w1 ⟨rfl, hb⟩; have HB1 := Aside0.mk hb; clear hb))
  go_ret
  exact ⟨rfl, HB1.out⟩
theorem delI162.own (A : Option Addr) (c base B : Nat) (l : List Int) (h : Int) (ok : Nat → Prop) (w0 w : World) (HQ : Kd.Q (Kd.int .i64) 3 w base ok (.slice A l.length c) l)
    (hB : w.cell? ⟨B, 0, none⟩ = some (.int .i64 h)) (hBg : some B ≠ (Value.slice A l.length c).ownBlock) (HB : Below base w0 w) (hbase : base ≤ w.heap.size) (hl : l.length < 1000000) :
    Calls Try.prog 161 #[.slice A l.length c, .func (.func 162) #[] #[.pointer (some ⟨B, 0, none⟩)]] w fun e w' => ∃ v, e = .returned v ∧ Kd.Q (Kd.int .i64) 3 w' base ok v (l.filter (fun x => x != h)) ∧ Below base w0 w' ∧ w.grownBy w' (Value.slice A l.length c).ownBlock ∧ v.ownBlock = (Value.slice A l.length c).ownBlock := by
  rcases ixI_cases l h with ⟨hx, hn⟩ | ⟨i, hi, hx, hat, hn⟩
  · refine (delI162.miss A c B l h w (Kd.Q_reads' HQ).2.2 hx hB).mono ?_
    rintro e w1 ⟨rfl, hb⟩
    refine ⟨_, rfl, ?_, below_then HB hbase hb, grown_of_below hb _, rfl⟩
    rw [List.filter_eq_self.mpr (fun x hx => by simpa using hn x hx)]
    exact Kd.Q_below HQ hb
  · obtain ⟨g, o, cap, hv, _, _, _⟩ := Kd.Q_form HQ (by omega)
    injection hv with ha _ hc
    subst ha; subst hc
    refine (delI162.found g o c i base B l h ok w0 w HQ hi hx (by rw [List.take_succ_eq_append_getElem hi, hat]) hn hB (fun he => hBg (by rw [he]; rfl)) HB hbase hl).mono ?_
    rintro e w1 ⟨m, rfl, hq, hb, hg⟩
    exact ⟨_, rfl, hq, hb, hg, rfl⟩
def ThreeAt (W : World) (g base : Nat) (cp mo : Int) (s m : List S120) (gh : List Int) : Prop :=
  ∃ V2 V3 V4, W.heap[g]? = some (.cells #[.int .i64 cp, .int .i64 mo, V2, V3, V4] 75 (0, 0)) ∧ Kd.Q k120 120 W base (fun k => True ∧ some k ≠ V3.ownBlock) V2 s ∧ Kd.Q k120 120 W base (fun k => True ∧ some k ≠ V2.ownBlock) V3 m ∧ Kd.Q (Kd.int .i64) 3 W base (fun _ => True) V4 gh
theorem ThreeAt.below {W W1 : World} {g base : Nat} {cp mo : Int} {s m : List S120} {gh : List Int} (h : ThreeAt W g base cp mo s m gh) (hb : Below W.heap.size W W1) : ThreeAt W1 g base cp mo s m gh := by
  obtain ⟨V2, V3, V4, h0, h2, h3, h4⟩ := h
  exact ⟨V2, V3, V4, blk_below h0 hb, Kd.Q_below h2 hb, Kd.Q_below h3 hb, Kd.Q_below h4 hb⟩
theorem ThreeAt.lower {W : World} {g b b1 : Nat} {cp mo : Int} {s m : List S120} {gh : List Int} (h : ThreeAt W g b1 cp mo s m gh) (hb : b ≤ b1) : ThreeAt W g b cp mo s m gh := by
  obtain ⟨V2, V3, V4, h0, h2, h3, h4⟩ := h
  exact ⟨V2, V3, V4, h0, Kd.Q_lower h2 hb, Kd.Q_lower h3 hb, Kd.Q_lower h4 hb⟩
def FrT (g : Nat) (w w' : World) : Prop := w.heap.size ≤ w'.heap.size ∧ ∀ i cs q z, w.heap[i]? = some (.cells cs q z) → i ≠ g → q ≠ 120 → q ≠ 3 → w'.heap[i]? = some (.cells cs q z)
theorem FrT.refl (g : Nat) (w : World) : FrT g w w := ⟨Nat.le_refl _, fun _ _ _ _ h _ _ _ => h⟩
theorem FrT.trans {g : Nat} {w w1 w2 : World} (h : FrT g w w1) (k : FrT g w1 w2) : FrT g w w2 := ⟨Nat.le_trans h.1 k.1, fun i cs q z hi hg h1 h2 => k.2 i cs q z (h.2 i cs q z hi hg h1 h2) hg h1 h2⟩
theorem FrT.of_below {g : Nat} {w w1 : World} (h : Below w.heap.size w w1) : FrT g w w1 := ⟨h.size, fun i cs q z hi _ _ _ => (h.block i (blk_lt hi)).trans hi⟩
theorem FrT.set {g : Nat} (w : World) (j : Nat) (u : Value) : FrT g w (w.setCell ⟨g, j, none⟩ u) := ⟨by simp [World.setCell], fun i cs q z hi hg _ _ => (Below.heap_setCell w ⟨g, j, none⟩ u i hg).trans hi⟩
theorem FrT.of_grown {g : Nat} {w w1 : World} {row : Option Nat} (h : w.grownBy w1 row) (hr : ∀ k, row = some k → ∃ cells e, w.heap[k]? = some (.cells cells e (0, 0)) ∧ (e = 120 ∨ e = 3)) : FrT g w w1 := by
  refine ⟨h.size, fun i cs q z hi _ h1 h2 => ?_⟩
  rw [h.block i (blk_lt hi) (fun he => ?_), hi]
  obtain ⟨cells, e, hc, he'⟩ := hr i he.symm
  rw [hi] at hc
  simp only [Option.some.injEq, Obj.cells.injEq] at hc
  obtain ⟨_, hq, _⟩ := hc
  rcases he' with rfl | rfl
  · exact h1 hq
  · exact h2 hq
theorem FrT.of_keep {g : Nat} {w w1 : World} (h : KeepBut w w1 g none) : FrT g w w1 := ⟨h.1, fun i cs q z hi hg _ _ => (h.2 i (blk_lt hi) hg (by simp)).trans hi⟩
theorem Q_keepT {α : Type} {d : Kd α} {e base : Nat} {w w1 : World} {ok : Nat → Prop} {V : Value} {xs : List α} {g t : Nat} {cs : Array Value} (h : d.Q e w base ok V xs) (hk : KeepBut w w1 g none) (hb : w.heap[g]? = some (.cells cs t (0, 0))) (ht : ∀ q, q ∈ e :: d.E → q ≠ t) : d.Q e w1 base ok V xs := by
  refine Kd.Q_mono (Kd.Q_keep (Kd.Q_bound h) hk (fun k hk' he => ?_)) (fun _ hk' => hk'.1)
  obtain ⟨_, _, hlt, q, hq, cells, hc⟩ := hk'
  subst he
  rw [hb] at hc
  injection hc with hc
  injection hc with _ hc
  exact ht q hq hc.symm
theorem own_of_drop (A : Option Addr) (n c k j m : Nat) : (Value.slice (if c = k then A else A.map (·.add j)) m (c - k)).ownBlock = (Value.slice A n c).ownBlock := by
  split
  · cases A <;> rfl
  · cases A with
    | none => rfl
    | some a => simp [Value.ownBlock, add_block]
def goMain : Nat → List S120 → Option (List S120 × ByteArray × Bool)
  | 0, _ => none
  | _ + 1, [] => some ([], ⟨#[]⟩, false)
  | n + 1, x :: t => if x.f2 = 0 then some (t, x.f0, true) else goMain n (t ++ [⟨x.f0, x.f1, wrap64 (x.f2 - 1)⟩])
set_option maxHeartbeats 8000000 in
set_option maxRecDepth 100000 in
theorem evictMain.calls (n g base : Nat) (cp mo : Int) (s m : List S120) (gh : List Int) (m' : List S120) (key : ByteArray) (ok : Bool) (w0 w : World) (hT : ThreeAt w g base cp mo s m gh) (HB : Below base w0 w) (hg : base ≤ g) (hbs : base ≤ w.heap.size) (hl : m.length < 1000000) (h : goMain n m = some (m', key, ok)) :
    Calls Try.prog 188 #[.pointer (some ⟨g, 0, none⟩)] w fun e w' => e = .returned (.tuple #[.string key, .bool ok]) ∧ ThreeAt w' g base cp mo s m' gh ∧ Below base w0 w' ∧ FrT g w w' := by
  have HT := Aside0.mk hT
  have HH := Aside0.mk h
  have HL := Aside0.mk hl
  have HB0 := Aside0.mk HB
  have HGB := Aside0.mk hg
  have HBS := Aside0.mk hbs
  clear hT HB hg hl h hbs
  go_enter Try.func188, Try.ntmps188
  go_wp2
  go_loopg [] n (fun kq w' => ∃ xs : List S120, Aside0 (goMain kq xs = some (m', key, ok)) ∧ Aside0 (xs.length = m.length) ∧ Aside0 (ThreeAt w' g base cp mo s xs gh) ∧ Aside0 (Below base w0 w') ∧ Aside0 (FrT g w w'))
  case atStart => exact ⟨m, HH, ⟨rfl⟩, HT, HB0, ⟨FrT.refl _ _⟩⟩
  case round =>
    clear HH HT HB0
    obtain ⟨xs, HA, HN, HT, HB1, HF⟩ := hrel
    obtain ⟨V2, V3, V4, hb, hq2, hq3, hq4⟩ := HT.out
    have HBK := Aside0.mk hb
    have HQ2 := Aside0.mk hq2
    have HQ3 := Aside0.mk hq3
    have HQ4 := Aside0.mk hq4
    obtain ⟨⟨p0, p1, p2, p3, p4⟩, q0, q1, q2, q3, q4⟩ := cells5 hb
    clear hb hq2 hq3 hq4 HT p0 p1 p2 p4 q0 q1 q2 q4
    obtain ⟨A, c, rfl, hc⟩ := Kd.Q_slice HQ3.out
    cases gk with
    | zero => exact absurd HA.out (by simp [goMain])
    | succ k1 =>
      cases xs with
      | nil =>
        have ha := HA.out
        simp only [goMain, Option.some.injEq, Prod.mk.injEq] at ha
        obtain ⟨rfl, rfl, rfl⟩ := ha
        go_wp2
        go_ret2
        exact ⟨rfl, ⟨_, _, _, HBK.out, HQ2.out, HQ3.out, HQ4.out⟩, HB1.out, HF.out⟩
      | cons y ys =>
        have ha := HA.out
        simp only [goMain] at ha
        obtain ⟨_, _, hC⟩ := Kd.Q_reads' HQ3.out
        obtain ⟨ad, e1, h0, h1, h2⟩ := at_T120 hC 0 (by omega) (by simp)
        cases e1
        have ey : rd_T120 (y :: ys) 0 = y := rfl
        rw [ey] at h0 h1 h2
        have ez : ad.add ((0 : Int).toNat * 3) = ad := addr_add_zero ad
        rw [ez] at h0 h1 h2
        clear ez ey hC
        have hW := blk_alloc HBK.out (.cells #[.string y.f0, .string y.f1, .int .i64 y.f2] 120)
        have HBW := Aside0.mk hW
        have P3 := (cells5 hW).1.2.2.2.1
        have F3 := (cells5 hW).2.2.2.2.1
        have hne : g ≠ wr.heap.size := Nat.ne_of_lt (blk_lt HBK.out)
        have hne2 := hne.symm
        clear hW
        obtain ⟨i0, hi0, _, hsz0, _⟩ := info_parts info120
        have hcut0 := cut_from (P := Try.prog) 32 120 .i64 Try.underlying32 hi0 3 hsz0 (some ad) (y :: ys).length c 1 (by omega) (by simp; omega)
        have hr1 := Kd.Q_drop (k := (1 : Int).toNat) HQ3.out (by simp)
        have hown := own_of_drop (some ad) (y :: ys).length c (1 : Int).toNat ((1 : Int).toNat * 3) ((y :: ys).length - (1 : Int).toNat)
        obtain ⟨A1, hA1⟩ : ∃ A1, A1 = (if c = (1 : Int).toNat then (some ad) else (some ad : Option Addr).map (·.add ((1 : Int).toNat * 3))) := ⟨_, rfl⟩
        obtain ⟨c1, hcc1⟩ : ∃ c1, c1 = c - (1 : Int).toNat := ⟨_, rfl⟩
        rw [← hA1, ← hcc1] at hcut0 hown
        have hr2 : Kd.Q k120 120 wr base (fun k => True ∧ some k ≠ V2.ownBlock) (.slice A1 ys.length c1) ys := by rw [hA1, hcc1]; exact hr1
        have hcut : ∀ W_ : World, (Instr.slice 32 (.slice (some ad) (ys.length + 1) c) (some (.int .i64 1)) none none).run Try.prog W_ = .ok (.slice A1 ys.length c1) W_ := hcut0
        have HQ5 := Aside0.mk hr2
        have HOWN : Aside0 ((Value.slice A1 ys.length c1).ownBlock = (Value.slice (some ad) (y :: ys).length c).ownBlock) := ⟨hown⟩
        clear hr1 hr2 hcut0 hA1 hcc1 hi0 hsz0 hown
        by_cases hy : y.f2 = 0
        · rw [if_pos hy] at ha
          simp only [Option.some.injEq, Prod.mk.injEq] at ha
          obtain ⟨rfl, rfl, rfl⟩ := ha
          have by1 : (y.f2 == 0) = true := beq_iff_eq.mpr hy
          have HC := Aside0.mk hc
          clear hy hc
          go_wp2
          have HK := Aside0.mk ((KeepBut.of_below (below_alloc (Below.refl wr.heap.size wr) (.cells #[.string y.f0, .string y.f1, .int .i64 y.f2] 120)) g none).set_ 3 (.slice A1 ys.length c1))
          have hg1 := blk_put HBW.out 3 (.slice A1 ys.length c1) rfl
          have HR2 := Aside0.mk (Q_keepT HQ2.out HK.out HBK.out (by decide))
          have HR5 := Aside0.mk (Q_keepT HQ5.out HK.out HBK.out (by decide))
          have HR4 := Aside0.mk (Q_keepT HQ4.out HK.out HBK.out (by decide))
          go_ret2
          refine ⟨rfl, ⟨V2, .slice A1 ys.length c1, V4, hg1, ?_, HR5.out, HR4.out⟩, (HB1.out.alloc (Nat.le_trans HBS.out HF.out.1) _).setCell HGB.out _, HF.out.trans (FrT.of_keep HK.out)⟩
          rw [HOWN.out]; exact HR2.out
        · rw [if_neg hy] at ha
          have by1 : (y.f2 == 0) = false := beq_eq_false_iff_ne.mpr hy
          have HA2 := Aside0.mk ha
          have HC := Aside0.mk hc
          clear hy hc ha HA
          go_wp2
          have HK := Aside0.mk (keep_far ((KeepBut.of_below (below_alloc (Below.refl wr.heap.size wr) (.cells #[.string y.f0, .string y.f1, .int .i64 y.f2] 120)) g none).set_ 3 (.slice A1 ys.length c1)) (p := ⟨wr.heap.size, 2, none⟩) (Nat.le_refl _) (.int .i64 (wrap64 (y.f2 - 1))))
          obtain ⟨fq, hfq⟩ : ∃ fq, fq = wrap64 (y.f2 - 1) := ⟨_, rfl⟩
          have HFQ := Aside0.mk hfq
          rw [← hfq] at HK ⊢
          clear hfq
          have XG := Aside0.mk (blk_far (blk_put HBW.out 3 (.slice A1 ys.length c1) rfl) (p := ⟨wr.heap.size, 2, none⟩) hne (.int .i64 fq))
          have XB := Aside0.mk (blk_put (blk_far (blk_new wr (.cells #[.string y.f0, .string y.f1, .int .i64 y.f2] 120)) (p := ⟨g, 3, none⟩) hne2 (.slice A1 ys.length c1)) 2 (.int .i64 fq) rfl)
          have X2 := Aside0.mk (show Kd.Q k120 120 _ base (fun k => True ∧ some k ≠ (Value.slice A1 ys.length c1).ownBlock) V2 s by rw [HOWN.out]; exact Q_keepT HQ2.out HK.out HBK.out (by decide))
          have X3 := Aside0.mk (Q_keepT HQ5.out HK.out HBK.out (by decide))
          have X4 := Aside0.mk (Q_keepT HQ4.out HK.out HBK.out (by decide))
          have XS : Aside0 (base ≤ wr.heap.size) := ⟨Nat.le_trans HBS.out HF.out.1⟩
          have XD := Aside0.mk (((HB1.out.alloc XS.out (.cells #[.string y.f0, .string y.f1, .int .i64 y.f2] 120)).setCell (p := ⟨g, 3, none⟩) HGB.out (.slice A1 ys.length c1)).setCell (p := ⟨wr.heap.size, 2, none⟩) XS.out (.int .i64 fq))
          have XF := Aside0.mk (HF.out.trans (FrT.of_keep HK.out))
          have XNE : Aside0 (some wr.heap.size ≠ (Value.slice A1 ys.length c1).ownBlock) := ⟨fun he => by have := Kd.Q_lt HQ5.out _ he.symm; omega⟩
          replace XS : Aside0 (base ≤ _) := ⟨Nat.le_trans XS.out HK.out.1⟩
          have XL : Aside0 (ys.length < 1000000) := ⟨by have h1 := HN.out; have h2 := HL.out; rw [List.length_cons] at h1; omega⟩
          clear hne hne2 P3 F3 p3 q3 h0 h1 h2 HK HB1 HF HQ2 HQ3 HQ4 HQ5 HBK HBW
          generalize hbx : wr.heap.size = bx at *
          generalize ((wr.alloc (.cells #[.string y.f0, .string y.f1, .int .i64 y.f2] 120)).setCell ⟨g, 3, none⟩ (.slice A1 ys.length c1)).setCell ⟨bx, 2, none⟩ (.int .i64 fq) = Wx at *
          clear hbx
          generalize hV2 : V2 = V2' at *
          generalize hzs : ys = zs at *
          generalize A1 = A3 at *
          generalize c1 = c3 at *
          obtain ⟨s1, s2, s3⟩ := (cells3 XB.out).1
          have s0 := (cells5 XG.out).1.2.2.2.1
          obtain ⟨z2, hz2⟩ : ∃ z : List S120, z = zs ++ [⟨y.f0, y.f1, fq⟩] := ⟨_, rfl⟩
          have HZ2 := Aside0.mk hz2
          clear hz2
          refine start_ (n := 11) (S := fun w' => w'.cell? ⟨g, 3, none⟩ = some (.slice A3 zs.length c3) ∧ w'.cell? ⟨bx, 0, none⟩ = some (.string y.f0) ∧ w'.cell? ⟨bx, 1, none⟩ = some (.string y.f1) ∧ w'.cell? ⟨bx, 2, none⟩ = some (.int .i64 fq)) (ds := [10]) #[false, false, false, false, false, false, false, false, false, false, false] (by kernel_rfl) rfl rfl ⟨s0, s1, s2, s3⟩ (fun hHeld => ?_)
          clear s0 s1 s2 s3
          refine pure_ (i := 0) (N := some 34) (v := ?_) (a' := ?_) #[true, false, false, false, false, false, false, false, false, false, false] rfl rfl (by kernel_rfl) (fun _ _ _ h => h) (Or.inl ⟨by rfl, ?_⟩) ?_ ?_
          rotate_left
          · intro w'
            go_simp
            with_reducible rfl
          rotate_left
          · simp only [Act.put, lz1, lz2, lz3, i64_w, i32_w]
            rfl
          refine pure_ (i := 1) (N := some 35) (v := ?_) (a' := ?_) #[true, true, false, false, false, false, false, false, false, false, false] rfl rfl (by kernel_rfl) (fun _ _ _ h => h) (Or.inl ⟨by rfl, ?_⟩) ?_ ?_
          rotate_left
          · intro w'
            go_simp
            with_reducible rfl
          rotate_left
          · simp only [Act.put, lz1, lz2, lz3, i64_w, i32_w]
            rfl
          refine pure_ (i := 2) (N := some 36) (v := ?_) (a' := ?_) #[true, true, true, false, false, false, false, false, false, false, false] rfl rfl (by kernel_rfl) (fun _ _ _ h => h) (Or.inl ⟨by rfl, ?_⟩) ?_ ?_
          rotate_left
          · intro w'
            go_simp
            with_reducible rfl
          rotate_left
          · simp only [Act.put, lz1, lz2, lz3, i64_w, i32_w]
            rfl
          refine pure_ (i := 3) (N := some 37) (v := ?_) (a' := ?_) #[true, true, true, true, false, false, false, false, false, false, false] rfl rfl (by kernel_rfl) (fun _ _ _ h => h) (Or.inl ⟨by rfl, ?_⟩) ?_ ?_
          rotate_left
          · intro w'
            go_simp
            with_reducible rfl
          rotate_left
          · simp only [Act.put, lz1, lz2, lz3, i64_w, i32_w]
            rfl
          refine take_ (i := 4) (N := some 38) (v := ?_) (a' := ?_) #[true, true, true, true, true, false, false, false, false, false, false] rfl rfl (by kernel_rfl) (fun _ _ _ h => h) (Or.inl ⟨by rfl, ?_⟩) hHeld ?_ ?_
          rotate_left
          · rintro w' ⟨s0, s1, s2, s3⟩
            go_simp
            with_reducible rfl
          rotate_left
          · simp only [Act.put, lz1, lz2, lz3, i64_w, i32_w]
            rfl
          refine take_ (i := 5) (N := some 39) (v := ?_) (a' := ?_) #[true, true, true, true, true, true, false, false, false, false, false] rfl rfl (by kernel_rfl) (fun _ _ _ h => h) (Or.inl ⟨by rfl, ?_⟩) hHeld ?_ ?_
          rotate_left
          · rintro w' ⟨s0, s1, s2, s3⟩
            go_simp
            with_reducible rfl
          rotate_left
          · simp only [Act.put, lz1, lz2, lz3, i64_w, i32_w]
            rfl
          refine one_ (i := 6) (N := some 40) #[true, true, true, true, true, true, true, false, false, false, false] rfl rfl (by kernel_rfl) (by decide) (fun K hK => ?_)
          refine event_step (v := .slice (some ⟨Wx.drew.heap.size, 0, none⟩) 1 1) (w1 := Wx.drew.alloc (.cells #[.string y.f0, .string y.f1, .int .i64 fq] 120)) rfl (by first | (go_simp; done) | (go_simp; rfl)) ?_
          have N7 := Aside0.mk (blk_alloc (blk_drew XG.out) (.cells #[.string y.f0, .string y.f1, .int .i64 fq] 120))
          have NA := Aside0.mk (blk_alloc (blk_drew XB.out) (.cells #[.string y.f0, .string y.f1, .int .i64 fq] 120))
          refine hK.out _ _ ⟨(blk_cell N7.out 3).trans rfl, (blk_cell NA.out 0).trans rfl, (blk_cell NA.out 1).trans rfl, (blk_cell NA.out 2).trans rfl⟩ (fun hHeld => ?_)
          clear hK K
          refine norm_ (a' := ?_) ?_ ?_
          rotate_left
          · show Act.put _ (some 40) _ = _
            simp only [Act.put, lz1, lz2, lz3, i64_w, i32_w]
            rfl
          refine one_ (i := 7) (N := some 41) #[true, true, true, true, true, true, true, true, false, false, false] rfl rfl (by kernel_rfl) (by decide) (fun K hK => ?_)
          refine Kd.Q_append_step k120 (w0 := w0) base rfl (.tmp 38) (.tmp 40) 32 120 (.agg #[(.string ⟨#[]⟩), (.string ⟨#[]⟩), (.int .i64 0)]) 40 rfl Try.underlying32 info120 rfl (by decide) (by omega) (.slice A3 zs.length c3) zs ⟨y.f0, y.f1, fq⟩ [.string y.f0, .string y.f1, .int .i64 fq] (fun k => True ∧ some k ≠ V2'.ownBlock) (fun _ => False) rfl rfl (k120_mkM _ _ _ ⟨y.f0, y.f1, fq⟩) (fun _ hk => hk.elim) (fun k hk => ⟨trivial, fun he => by have := Kd.Q_lt X2.out k he.symm; exact absurd hk (Nat.not_le.2 this)⟩) (Kd.Q_drew X3.out) XD.out.drew XS.out (by have := XL.out; omega) (fun v6 w6 ho hb hg hat => ?_)
          rw [← HZ2.out] at ho
          obtain ⟨A6, c6, rfl, hc6⟩ := Kd.Q_slice ho
          have P2 := Aside0.mk (Kd.Q_after (Kd.Q_drew X2.out) hg hat)
          have P4 := Aside0.mk (Q_grownT (Kd.Q_drew X4.out) hg (Kd.Q_typed (Kd.Q_drew X3.out)) (by decide))
          have PG := Aside0.mk (blk_grown (blk_drew XG.out) hg (Kd.Q_ne (Kd.Q_drew X3.out) (blk_drew XG.out) (by decide)))
          have PA := Aside0.mk (blk_grown (blk_drew XB.out) hg XNE.out)
          have PD := Aside0.mk hb
          have PF := Aside0.mk (XF.out.trans (FrT.of_grown (g := g) (w := Wx) (w1 := w6) ⟨hg.os, hg.tape, hg.output, hg.size, hg.block⟩ (fun k hk => by obtain ⟨cells, hc⟩ := Kd.Q_typed X3.out k hk; exact ⟨cells, 120, hc, .inl rfl⟩)))
          have P3 := Aside0.mk ho
          have PS := Aside0.mk (Nat.le_trans XS.out hg.size)
          clear ho hb hg hat X2 X3 X4 XG XB XD XF N7 NA
          refine hK.out _ _ ⟨(blk_cell PG.out 3).trans rfl, (blk_cell PA.out 0).trans rfl, (blk_cell PA.out 1).trans rfl, (blk_cell PA.out 2).trans rfl⟩ (fun hHeld => ?_)
          clear hK K
          refine norm_ (a' := ?_) ?_ ?_
          rotate_left
          · show Act.put _ (some 41) _ = _
            simp only [Act.put, lz1, lz2, lz3, i64_w, i32_w]
            rfl
          refine pure_ (i := 8) (N := some 42) (v := ?_) (a' := ?_) #[true, true, true, true, true, true, true, true, true, false, false] rfl rfl (by kernel_rfl) (fun _ _ _ h => h) (Or.inl ⟨by rfl, ?_⟩) ?_ ?_
          rotate_left
          · intro w'
            go_simp
            with_reducible rfl
          rotate_left
          · simp only [Act.put, lz1, lz2, lz3, i64_w, i32_w]
            rfl
          refine pure_ (i := 9) (N := some 43) (v := ?_) (a' := ?_) #[true, true, true, true, true, true, true, true, true, true, false] rfl rfl (by kernel_rfl) (fun _ _ _ h => h) (Or.inl ⟨by rfl, ?_⟩) ?_ ?_
          rotate_left
          · intro w'
            go_simp
            with_reducible rfl
          rotate_left
          · simp only [Act.put, lz1, lz2, lz3, i64_w, i32_w]
            rfl
          refine last_ (i := 10) (N := none) #[true, true, true, true, true, true, true, true, true, true, true] rfl rfl (by kernel_rfl) (by decide) (fun K hK => ?_)
          have s3 : w6.cell? ⟨g, 3, none⟩ = some (.slice A3 zs.length c3) := (blk_cell PG.out 3).trans rfl
          have f3 : w6.frozen? ⟨g, 3, none⟩ = false := blk_frozen PG.out 3
          refine skip_ rfl rfl (w1 := w6.setCell ⟨g, 3, none⟩ (.slice A6 z2.length c6)) (by go_simp) ?_
          refine hK.out _ _ ?_
          clear hK K s3 f3
          refine done_ (by kernel_rfl) ?_
          have G4 := Aside0.mk (Kd.Q_set P4.out PG.out (by decide) 3 (.slice A6 z2.length c6))
          have G2 := Aside0.mk (Kd.Q_set P2.out PG.out (by decide) 3 (.slice A6 z2.length c6))
          have G3 := Aside0.mk (Kd.Q_set P3.out PG.out (by decide) 3 (.slice A6 z2.length c6))
          have GG := Aside0.mk (blk_put PG.out 3 (.slice A6 z2.length c6) rfl)
          have GD := Aside0.mk (PD.out.setCell (p := ⟨g, 3, none⟩) HGB.out (.slice A6 z2.length c6))
          have GF := Aside0.mk (PF.out.trans (FrT.set w6 3 (.slice A6 z2.length c6)))
          go_wp2
          go_roundg k1
          case measure => omega
          case rel => exact ⟨z2, ⟨by rw [HZ2.out, HFQ.out]; exact HA2.out⟩, ⟨by rw [HZ2.out]; have := HN.out; simp at this ⊢; omega⟩, ⟨⟨_, _, _, GG.out, G2.out, G3.out, G4.out⟩⟩, ⟨GD.out⟩, ⟨GF.out⟩⟩
section
variable {P : Program} {ops : Array Oper} {rest : List Oper} {o : Oper} {a : Act} {Q' : Exit → Act → World → Prop} {Kc : Act → World → Prop} {α : Type}
theorem Q_runAt (d : Kd α) {w0 W : World} (base : Nat) (t ty e : TypeId) (z : Value) (bytes : Nat)
    (ht : P.underlying t = some (.slice e)) (hinfo : (P.info? e).map (fun i => (i.zero, i.size, i.bytes)) = some (some z, d.sz, bytes)) (hz : z.cells.size = d.sz) (hs0 : 0 < d.sz) (hb0 : 0 < bytes)
    (v : Value) (xs : List α) (p : α) (cs : List Value) (ad : Addr) (c : Nat) (hcs : ∀ j u, cs[j]? = some u → W.cell? (ad.add j) = some u) (ok okp : Nat → Prop) (hp : d.M W base okp p cs) (hokp : ∀ k, okp k → ok k ∧ some k ≠ v.ownBlock) (hfresh : ∀ k, W.heap.size ≤ k → ok k)
    (HO : d.Q e W base ok v xs) (HB : Below base w0 W) (hbase : base ≤ W.heap.size) (hl : (xs.length + 1) * bytes ≤ 140737488355328) :
    ∃ v1 w1, (Builtin.append_ #[t, t] ty #[v, .slice (some ad) 1 c]).run P W = .ok v1 w1 ∧ d.Q e w1 base ok v1 (xs ++ [p]) ∧ Below base w0 w1 ∧ W.grownBy w1 v.ownBlock ∧ (v1.ownBlock = v.ownBlock ∨ ∃ b, v1.ownBlock = some b ∧ W.heap.size ≤ b) := by
  obtain ⟨h0, inner, hown, hr⟩ := HO
  obtain ⟨i0, hi, hzz⟩ := Option.map_eq_some_iff.1 hinfo
  simp only [Prod.mk.injEq] at hzz
  obtain ⟨hz0, hz1, hz2⟩ := hzz
  have hlen : xs.length + 1 ≤ 140737488355328 := Nat.le_trans (Nat.le_mul_of_pos_right _ hb0) hl
  have hcl := d.K_len (d.K_of_M hp)
  obtain ⟨v1, w1, hrun, hq1, hg, hat⟩ := q_append (P := P) W base t ty e i0 z d.sz bytes ht hi hz0 hz1 hz2 hz hs0 v xs.length inner hown ad 1 c cs (by rw [hcl, Nat.one_mul]) hcs (d.K_one (d.K_of_M hp)) (by omega) (by simp only [maxLen]; omega) hl hbase
  exact ⟨v1, w1, hrun, Kd.Q_appended h0 hr hp hokp hfresh hq1 hg hat, HB.grown hg hbase (fun k hk => (q_typed hown k hk).1), hg, hat⟩
theorem Q_append_stepAt (d : Kd α) {w0 W : World} (base : Nat) (hw : Region.wanted o (yielded ops a.tmps) = true) (s x : Operand) (t e : TypeId) (z : Value) (bytes : Nat)
    (ho : o.op = .call { callee := .builtin .append, args := #[s, x], argTypes := #[t, t] })
    (ht : P.underlying t = some (.slice e)) (hinfo : (P.info? e).map (fun i => (i.zero, i.size, i.bytes)) = some (some z, d.sz, bytes)) (hz : z.cells.size = d.sz) (hs0 : 0 < d.sz) (hb0 : 0 < bytes)
    (v : Value) (xs : List α) (p : α) (cs : List Value) (ad : Addr) (c : Nat) (hcs : ∀ j u, cs[j]? = some u → W.cell? (ad.add j) = some u) (ok okp : Nat → Prop) (hs : a.eval s = v) (hx : a.eval x = .slice (some ad) 1 c) (hp : d.M W base okp p cs) (hokp : ∀ k, okp k → ok k ∧ some k ≠ v.ownBlock) (hfresh : ∀ k, W.heap.size ≤ k → ok k)
    (HO : d.Q e W base ok v xs) (HB : Below base w0 W) (hbase : base ≤ W.heap.size) (hl : (xs.length + 1) * bytes ≤ 140737488355328)
    (h : ∀ v1 w1, d.Q e w1 base ok v1 (xs ++ [p]) → Below base w0 w1 → W.grownBy w1 v.ownBlock → (v1.ownBlock = v.ownBlock ∨ ∃ b, v1.ownBlock = some b ∧ W.heap.size ≤ b) → Kc (a.put o.dst v1) w1) :
    if Region.wanted o (yielded ops a.tmps) = true then Oper.wp P o a W Kc Q' else Kc (a.put o.dst undef) W := by
  obtain ⟨v1, w1, hr, h1, h2, h3, h4⟩ := Q_runAt (P := P) d base t o.type e z bytes ht hinfo hz hs0 hb0 v xs p cs ad c hcs ok okp hp hokp hfresh HO HB hbase hl
  rw [if_pos hw]
  unfold Oper.wp execOp
  simp only [ho, resolve, invoke, builtin, Sem.run_bind, Sem.run_pure, Result.andThen_ok, List.map_toArray, List.map_cons, List.map_nil, hs, hx, hr]
  exact h v1 w1 h1 h2 h3 h4
end
def ghostPut (cp mo : Int) (gh : List Int) (h : Int) : List Int := if ((gh.filter (fun x => x != h) ++ [h]).length : Int) > mx 1 (wrap64 (cp - mo)) then (gh.filter (fun x => x != h) ++ [h]).drop 1 else gh.filter (fun x => x != h) ++ [h]
def goSmall (k : Nat) (cp mo : Int) : List S120 → List S120 → List Int → Option (List S120 × List S120 × List Int × ByteArray × Bool)
  | [], m, gh => some ([], m, gh, ⟨#[]⟩, false)
  | x :: t, m, gh => if x.f2 > 1 then goSmall k cp mo t (m ++ [⟨x.f0, x.f1, 0⟩]) gh else (impl_Hash.f k x.f0).bind fun h => some (t, m, ghostPut cp mo gh h, x.f0, true)
theorem goSmall_mono (k : Nat) (cp mo : Int) : ∀ (s m : List S120) (gh : List Int), LeO (goSmall k cp mo s m gh) (goSmall (k + 1) cp mo s m gh)
  | [], _, _ => LeO.refl _
  | x :: t, m, gh => by
    unfold goSmall
    exact LeO.ite (goSmall_mono k cp mo t _ _) (LeO.bind (impl_Hash.mono _ _) (fun _ => LeO.refl _))
theorem int_M (W : World) (base : Nat) (ok : Nat → Prop) (x : Int) : (Kd.int .i64).M W base ok x [.int .i64 x] := rfl
set_option maxHeartbeats 8000000 in
set_option maxRecDepth 100000 in
theorem evictSmall.calls (k g base : Nat) (cp mo : Int) (s m : List S120) (gh : List Int) (s' m' : List S120) (gh' : List Int) (key : ByteArray) (ok : Bool) (w0 w : World) (hT : ThreeAt w g base cp mo s m gh) (HB : Below base w0 w) (hg : base ≤ g) (hbs : base ≤ w.heap.size) (hl : s.length + m.length < 1000000 ∧ gh.length < 900000) (h : goSmall k cp mo s m gh = some (s', m', gh', key, ok)) :
    Calls Try.prog 187 #[.pointer (some ⟨g, 0, none⟩)] w fun e w' => e = .returned (.tuple #[.string key, .bool ok]) ∧ ThreeAt w' g base cp mo s' m' gh' ∧ Below base w0 w' ∧ FrT g w w' := by
  have HT := Aside0.mk hT
  have HH := Aside0.mk h
  have HL := Aside0.mk hl
  have HB0 := Aside0.mk HB
  have HGB := Aside0.mk hg
  have HBS := Aside0.mk hbs
  clear hT HB hg hl h hbs
  obtain ⟨z, hz⟩ : ∃ z : Int, mx 1 (wrap64 (cp - mo)) = z := ⟨_, rfl⟩
  have HZZ := Aside0.mk hz
  clear hz
  go_enter Try.func187, Try.ntmps187
  go_wp2
  go_loopg [] (s.length + 1) (fun kq w' => ∃ xs ms : List S120, Aside0 (goSmall k cp mo xs ms gh = some (s', m', gh', key, ok)) ∧ Aside0 (xs.length + 1 = kq ∧ xs.length + ms.length = s.length + m.length) ∧ Aside0 (ThreeAt w' g base cp mo xs ms gh) ∧ Aside0 (Below base w0 w') ∧ Aside0 (FrT g w w'))
  case atStart => exact ⟨s, m, HH, ⟨⟨rfl, rfl⟩⟩, HT, HB0, ⟨FrT.refl _ _⟩⟩
  case round =>
    clear HH HT HB0
    obtain ⟨xs, ms, HA, HN, HT, HB1, HF⟩ := hrel
    obtain ⟨V2, V3, V4, hb, hq2, hq3, hq4⟩ := HT.out
    have HBK := Aside0.mk hb
    have HQ2 := Aside0.mk hq2
    have HQ3 := Aside0.mk hq3
    have HQ4 := Aside0.mk hq4
    obtain ⟨⟨p0, p1, p2, p3, p4⟩, q0, q1, q2, q3, q4⟩ := cells5 hb
    clear hb hq2 hq3 hq4 HT p0 p1 p3 p4 q0 q1 q3 q4
    obtain ⟨A, c, rfl, hc⟩ := Kd.Q_slice HQ2.out
    cases xs with
    | nil =>
      have ha := HA.out
      simp only [goSmall, Option.some.injEq, Prod.mk.injEq] at ha
      obtain ⟨rfl, rfl, rfl, rfl, rfl⟩ := ha
      go_wp2
      go_ret2
      exact ⟨rfl, ⟨_, _, _, HBK.out, HQ2.out, HQ3.out, HQ4.out⟩, HB1.out, HF.out⟩
    | cons y ys =>
      have ha := HA.out
      simp only [goSmall] at ha
      obtain ⟨_, _, hC⟩ := Kd.Q_reads' HQ2.out
      obtain ⟨ad, e1, h0, h1, h2⟩ := at_T120 hC 0 (by omega) (by simp)
      cases e1
      have ey : rd_T120 (y :: ys) 0 = y := rfl
      rw [ey] at h0 h1 h2
      have ez : ad.add ((0 : Int).toNat * 3) = ad := addr_add_zero ad
      rw [ez] at h0 h1 h2
      clear ez ey hC
      have hW := blk_alloc HBK.out (.cells #[.string y.f0, .string y.f1, .int .i64 y.f2] 120)
      have HBW := Aside0.mk hW
      have P2 := (cells5 hW).1.2.2.1
      have F2 := (cells5 hW).2.2.2.1
      have hne : g ≠ wr.heap.size := Nat.ne_of_lt (blk_lt HBK.out)
      have hne2 := hne.symm
      clear hW
      obtain ⟨i0, hi0, _, hsz0, _⟩ := info_parts info120
      have hcut0 := cut_from (P := Try.prog) 32 120 .i64 Try.underlying32 hi0 3 hsz0 (some ad) (y :: ys).length c 1 (by omega) (by simp; omega)
      have hr1 := Kd.Q_drop (k := (1 : Int).toNat) HQ2.out (by simp)
      have hown := own_of_drop (some ad) (y :: ys).length c (1 : Int).toNat ((1 : Int).toNat * 3) ((y :: ys).length - (1 : Int).toNat)
      obtain ⟨A1, hA1⟩ : ∃ A1, A1 = (if c = (1 : Int).toNat then (some ad) else (some ad : Option Addr).map (·.add ((1 : Int).toNat * 3))) := ⟨_, rfl⟩
      obtain ⟨c1, hcc1⟩ : ∃ c1, c1 = c - (1 : Int).toNat := ⟨_, rfl⟩
      rw [← hA1, ← hcc1] at hcut0 hown
      have hr2 : Kd.Q k120 120 wr base (fun k => True ∧ some k ≠ V3.ownBlock) (.slice A1 ys.length c1) ys := by rw [hA1, hcc1]; exact hr1
      have hcut : ∀ W_ : World, (Instr.slice 32 (.slice (some ad) (ys.length + 1) c) (some (.int .i64 1)) none none).run Try.prog W_ = .ok (.slice A1 ys.length c1) W_ := hcut0
      have HQ5 := Aside0.mk hr2
      have HOWN : Aside0 ((Value.slice A1 ys.length c1).ownBlock = (Value.slice (some ad) (y :: ys).length c).ownBlock) := ⟨hown⟩
      clear hr1 hr2 hcut0 hA1 hcc1 hi0 hsz0 hown
      have HC := Aside0.mk hc
      clear hc
      by_cases hy : y.f2 > 1
      · rw [if_pos hy] at ha
        have by1 : decide (1 < y.f2) = true := decide_eq_true hy
        have HA2 := Aside0.mk ha
        clear hy ha HA
        go_wp2
        have HK := Aside0.mk (keep_far ((KeepBut.of_below (below_alloc (Below.refl wr.heap.size wr) (.cells #[.string y.f0, .string y.f1, .int .i64 y.f2] 120)) g none).set_ 2 (.slice A1 ys.length c1)) (p := ⟨wr.heap.size, 2, none⟩) (Nat.le_refl _) (.int .i64 0))
        have XG := Aside0.mk (blk_far (blk_put HBW.out 2 (.slice A1 ys.length c1) rfl) (p := ⟨wr.heap.size, 2, none⟩) hne (.int .i64 0))
        have XB := Aside0.mk (blk_put (blk_far (blk_new wr (.cells #[.string y.f0, .string y.f1, .int .i64 y.f2] 120)) (p := ⟨g, 2, none⟩) hne2 (.slice A1 ys.length c1)) 2 (.int .i64 0) rfl)
        have X2 := Aside0.mk (Q_keepT HQ5.out HK.out HBK.out (by decide))
        have X3' := Aside0.mk (show Kd.Q k120 120 _ base (fun k => True ∧ some k ≠ (Value.slice A1 ys.length c1).ownBlock) V3 ms by rw [HOWN.out]; exact Q_keepT HQ3.out HK.out HBK.out (by decide))
        have X4 := Aside0.mk (Q_keepT HQ4.out HK.out HBK.out (by decide))
        have XS : Aside0 (base ≤ wr.heap.size) := ⟨Nat.le_trans HBS.out HF.out.1⟩
        have XD := Aside0.mk (((HB1.out.alloc XS.out (.cells #[.string y.f0, .string y.f1, .int .i64 y.f2] 120)).setCell (p := ⟨g, 2, none⟩) HGB.out (.slice A1 ys.length c1)).setCell (p := ⟨wr.heap.size, 2, none⟩) XS.out (.int .i64 0))
        have XF := Aside0.mk (HF.out.trans (FrT.of_keep HK.out))
        obtain ⟨A3, c3, rfl, hc3⟩ := Kd.Q_slice HQ3.out
        have X3 := X3'
        clear X3'
        have XNE : Aside0 (some wr.heap.size ≠ (Value.slice A3 ms.length c3).ownBlock) := ⟨fun he => by have := Kd.Q_lt HQ3.out _ he.symm; omega⟩
        replace XS : Aside0 (base ≤ _) := ⟨Nat.le_trans XS.out HK.out.1⟩
        have XL : Aside0 (ms.length < 1000000) := ⟨by have h1 := HN.out; have h2 := HL.out; omega⟩
        clear hne hne2 P2 F2 p2 q2 h0 h1 h2 HK HB1 HF HQ2 HQ3 HQ4 HQ5 HBK HBW
        generalize hbx : wr.heap.size = bx at *
        generalize ((wr.alloc (.cells #[.string y.f0, .string y.f1, .int .i64 y.f2] 120)).setCell ⟨g, 2, none⟩ (.slice A1 ys.length c1)).setCell ⟨bx, 2, none⟩ (.int .i64 0) = Wx at *
        clear hbx
        obtain ⟨s1, s2, s3⟩ := (cells3 XB.out).1
        have s0 := (cells5 XG.out).1.2.2.2.1
        obtain ⟨z2, hz2⟩ : ∃ z : List S120, z = ms ++ [⟨y.f0, y.f1, 0⟩] := ⟨_, rfl⟩
        have HZ2 := Aside0.mk hz2
        clear hz2
        refine start_ (n := 11) (S := fun w' => w'.cell? ⟨g, 3, none⟩ = some (.slice A3 ms.length c3) ∧ w'.cell? ⟨bx, 0, none⟩ = some (.string y.f0) ∧ w'.cell? ⟨bx, 1, none⟩ = some (.string y.f1) ∧ w'.cell? ⟨bx, 2, none⟩ = some (.int .i64 0)) (ds := [10]) #[false, false, false, false, false, false, false, false, false, false, false] (by kernel_rfl) rfl rfl ⟨s0, s1, s2, s3⟩ (fun hHeld => ?_)
        clear s0 s1 s2 s3
        refine pure_ (i := 0) (N := some 30) (v := ?_) (a' := ?_) #[true, false, false, false, false, false, false, false, false, false, false] rfl rfl (by kernel_rfl) (fun _ _ _ h => h) (Or.inl ⟨by rfl, ?_⟩) ?_ ?_
        rotate_left
        · intro w'
          go_simp
          with_reducible rfl
        rotate_left
        · simp only [Act.put, lz1, lz2, lz3, i64_w, i32_w]
          rfl
        refine pure_ (i := 1) (N := some 31) (v := ?_) (a' := ?_) #[true, true, false, false, false, false, false, false, false, false, false] rfl rfl (by kernel_rfl) (fun _ _ _ h => h) (Or.inl ⟨by rfl, ?_⟩) ?_ ?_
        rotate_left
        · intro w'
          go_simp
          with_reducible rfl
        rotate_left
        · simp only [Act.put, lz1, lz2, lz3, i64_w, i32_w]
          rfl
        refine pure_ (i := 2) (N := some 32) (v := ?_) (a' := ?_) #[true, true, true, false, false, false, false, false, false, false, false] rfl rfl (by kernel_rfl) (fun _ _ _ h => h) (Or.inl ⟨by rfl, ?_⟩) ?_ ?_
        rotate_left
        · intro w'
          go_simp
          with_reducible rfl
        rotate_left
        · simp only [Act.put, lz1, lz2, lz3, i64_w, i32_w]
          rfl
        refine pure_ (i := 3) (N := some 33) (v := ?_) (a' := ?_) #[true, true, true, true, false, false, false, false, false, false, false] rfl rfl (by kernel_rfl) (fun _ _ _ h => h) (Or.inl ⟨by rfl, ?_⟩) ?_ ?_
        rotate_left
        · intro w'
          go_simp
          with_reducible rfl
        rotate_left
        · simp only [Act.put, lz1, lz2, lz3, i64_w, i32_w]
          rfl
        refine take_ (i := 4) (N := some 34) (v := ?_) (a' := ?_) #[true, true, true, true, true, false, false, false, false, false, false] rfl rfl (by kernel_rfl) (fun _ _ _ h => h) (Or.inl ⟨by rfl, ?_⟩) hHeld ?_ ?_
        rotate_left
        · rintro w' ⟨s0, s1, s2, s3⟩
          go_simp
          with_reducible rfl
        rotate_left
        · simp only [Act.put, lz1, lz2, lz3, i64_w, i32_w]
          rfl
        refine take_ (i := 5) (N := some 35) (v := ?_) (a' := ?_) #[true, true, true, true, true, true, false, false, false, false, false] rfl rfl (by kernel_rfl) (fun _ _ _ h => h) (Or.inl ⟨by rfl, ?_⟩) hHeld ?_ ?_
        rotate_left
        · rintro w' ⟨s0, s1, s2, s3⟩
          go_simp
          with_reducible rfl
        rotate_left
        · simp only [Act.put, lz1, lz2, lz3, i64_w, i32_w]
          rfl
        refine one_ (i := 6) (N := some 36) #[true, true, true, true, true, true, true, false, false, false, false] rfl rfl (by kernel_rfl) (by decide) (fun K hK => ?_)
        refine event_step (v := .slice (some ⟨Wx.drew.heap.size, 0, none⟩) 1 1) (w1 := Wx.drew.alloc (.cells #[.string y.f0, .string y.f1, .int .i64 0] 120)) rfl (by first | (go_simp; done) | (go_simp; rfl)) ?_
        have N7 := Aside0.mk (blk_alloc (blk_drew XG.out) (.cells #[.string y.f0, .string y.f1, .int .i64 0] 120))
        have NA := Aside0.mk (blk_alloc (blk_drew XB.out) (.cells #[.string y.f0, .string y.f1, .int .i64 0] 120))
        refine hK.out _ _ ⟨(blk_cell N7.out 3).trans rfl, (blk_cell NA.out 0).trans rfl, (blk_cell NA.out 1).trans rfl, (blk_cell NA.out 2).trans rfl⟩ (fun hHeld => ?_)
        clear hK K
        refine norm_ (a' := ?_) ?_ ?_
        rotate_left
        · show Act.put _ (some 36) _ = _
          simp only [Act.put, lz1, lz2, lz3, i64_w, i32_w]
          rfl
        refine one_ (i := 7) (N := some 37) #[true, true, true, true, true, true, true, true, false, false, false] rfl rfl (by kernel_rfl) (by decide) (fun K hK => ?_)
        refine Kd.Q_append_step k120 (w0 := w0) base rfl (.tmp 34) (.tmp 36) 32 120 (.agg #[(.string ⟨#[]⟩), (.string ⟨#[]⟩), (.int .i64 0)]) 40 rfl Try.underlying32 info120 rfl (by decide) (by omega) (.slice A3 ms.length c3) ms ⟨y.f0, y.f1, 0⟩ [.string y.f0, .string y.f1, .int .i64 0] (fun k => True ∧ some k ≠ (Value.slice A1 ys.length c1).ownBlock) (fun _ => False) rfl rfl (k120_mkM _ _ _ ⟨y.f0, y.f1, 0⟩) (fun _ hk => hk.elim) (fun k hk => ⟨trivial, fun he => by have := Kd.Q_lt X2.out k he.symm; exact absurd hk (Nat.not_le.2 this)⟩) (Kd.Q_drew X3.out) XD.out.drew XS.out (by have := XL.out; omega) (fun v6 w6 ho hb hg hat => ?_)
        rw [← HZ2.out] at ho
        obtain ⟨A6, c6, rfl, hc6⟩ := Kd.Q_slice ho
        have P2 := Aside0.mk (Kd.Q_after (Kd.Q_drew X2.out) hg hat)
        have P4 := Aside0.mk (Q_grownT (Kd.Q_drew X4.out) hg (Kd.Q_typed (Kd.Q_drew X3.out)) (by decide))
        have PG := Aside0.mk (blk_grown (blk_drew XG.out) hg (Kd.Q_ne (Kd.Q_drew X3.out) (blk_drew XG.out) (by decide)))
        have PA := Aside0.mk (blk_grown (blk_drew XB.out) hg XNE.out)
        have PD := Aside0.mk hb
        have PF := Aside0.mk (XF.out.trans (FrT.of_grown (g := g) (w := Wx) (w1 := w6) ⟨hg.os, hg.tape, hg.output, hg.size, hg.block⟩ (fun k hk => by obtain ⟨cells, hc⟩ := Kd.Q_typed X3.out k hk; exact ⟨cells, 120, hc, .inl rfl⟩)))
        have P3 := Aside0.mk ho
        have PS := Aside0.mk (Nat.le_trans XS.out hg.size)
        clear ho hb hg hat X2 X3 X4 XG XB XD XF N7 NA
        refine hK.out _ _ ⟨(blk_cell PG.out 3).trans rfl, (blk_cell PA.out 0).trans rfl, (blk_cell PA.out 1).trans rfl, (blk_cell PA.out 2).trans rfl⟩ (fun hHeld => ?_)
        clear hK K
        refine norm_ (a' := ?_) ?_ ?_
        rotate_left
        · show Act.put _ (some 37) _ = _
          simp only [Act.put, lz1, lz2, lz3, i64_w, i32_w]
          rfl
        refine pure_ (i := 8) (N := some 38) (v := ?_) (a' := ?_) #[true, true, true, true, true, true, true, true, true, false, false] rfl rfl (by kernel_rfl) (fun _ _ _ h => h) (Or.inl ⟨by rfl, ?_⟩) ?_ ?_
        rotate_left
        · intro w'
          go_simp
          with_reducible rfl
        rotate_left
        · simp only [Act.put, lz1, lz2, lz3, i64_w, i32_w]
          rfl
        refine pure_ (i := 9) (N := some 39) (v := ?_) (a' := ?_) #[true, true, true, true, true, true, true, true, true, true, false] rfl rfl (by kernel_rfl) (fun _ _ _ h => h) (Or.inl ⟨by rfl, ?_⟩) ?_ ?_
        rotate_left
        · intro w'
          go_simp
          with_reducible rfl
        rotate_left
        · simp only [Act.put, lz1, lz2, lz3, i64_w, i32_w]
          rfl
        refine last_ (i := 10) (N := none) #[true, true, true, true, true, true, true, true, true, true, true] rfl rfl (by kernel_rfl) (by decide) (fun K hK => ?_)
        have s3 : w6.cell? ⟨g, 3, none⟩ = some (.slice A3 ms.length c3) := (blk_cell PG.out 3).trans rfl
        have f3 : w6.frozen? ⟨g, 3, none⟩ = false := blk_frozen PG.out 3
        refine skip_ rfl rfl (w1 := w6.setCell ⟨g, 3, none⟩ (.slice A6 z2.length c6)) (by go_simp) ?_
        refine hK.out _ _ ?_
        clear hK K s3 f3
        refine done_ (by kernel_rfl) ?_
        have G4 := Aside0.mk (Kd.Q_set P4.out PG.out (by decide) 3 (.slice A6 z2.length c6))
        have G2 := Aside0.mk (Kd.Q_set P2.out PG.out (by decide) 3 (.slice A6 z2.length c6))
        have G3 := Aside0.mk (Kd.Q_set P3.out PG.out (by decide) 3 (.slice A6 z2.length c6))
        have GG := Aside0.mk (blk_put PG.out 3 (.slice A6 z2.length c6) rfl)
        have GD := Aside0.mk (PD.out.setCell (p := ⟨g, 3, none⟩) HGB.out (.slice A6 z2.length c6))
        have GF := Aside0.mk (PF.out.trans (FrT.set w6 3 (.slice A6 z2.length c6)))
        go_wp2
        go_roundg (ys.length + 1)
        case measure => have := HN.out; simp at this; omega
        case rel => exact ⟨ys, z2, ⟨by rw [HZ2.out]; exact HA2.out⟩, ⟨by rw [HZ2.out]; have := HN.out; simp at this ⊢; omega⟩, ⟨⟨_, _, _, GG.out, G2.out, G3.out, G4.out⟩⟩, ⟨GD.out⟩, ⟨GF.out⟩⟩
      · rw [if_neg hy] at ha
        have by1 : decide (1 < y.f2) = false := decide_eq_false hy
        obtain ⟨hh, hh1, ha⟩ := Option.bind_eq_some_iff.mp ha
        have HHS := Aside0.mk hh1
        simp only [Option.some.injEq, Prod.mk.injEq] at ha
        obtain ⟨rfl, rfl, rfl, rfl, rfl⟩ := ha
        clear hy HA hh1
        go_wp2_with (first | (go_at_call 160; (with_reducible refine (impl_Hash.calls k y.f0 hh _ HHS.out).mono ?_); rintro e w5 ⟨rfl, ⟨nd, rfl⟩⟩))
        have HK := Aside0.mk ((KeepBut.of_below (below_alloc (Below.refl wr.heap.size wr) (.cells #[.string y.f0, .string y.f1, .int .i64 y.f2] 120)) g none).set_ 2 (.slice A1 ys.length c1))
        have hg1 := blk_put HBW.out 2 (.slice A1 ys.length c1) rfl
        have XS0 : Aside0 (base ≤ wr.heap.size) := ⟨Nat.le_trans HBS.out HF.out.1⟩
        have X20 := Aside0.mk (Q_keepT HQ5.out HK.out HBK.out (by decide))
        have X30 := Aside0.mk (show Kd.Q k120 120 _ base (fun k => True ∧ some k ≠ (Value.slice A1 ys.length c1).ownBlock) V3 ms by rw [HOWN.out]; exact Q_keepT HQ3.out HK.out HBK.out (by decide))
        have X40 := Aside0.mk (Q_keepT HQ4.out HK.out HBK.out (by decide))
        have XB0 := blk_far (blk_new wr (.cells #[.string y.f0, .string y.f1, .int .i64 y.f2] 120)) (p := ⟨g, 2, none⟩) hne2 (.slice A1 ys.length c1)
        have XD0 := (HB1.out.alloc XS0.out (.cells #[.string y.f0, .string y.f1, .int .i64 y.f2] 120)).setCell (p := ⟨g, 2, none⟩) HGB.out (.slice A1 ys.length c1)
        have XF0 := HF.out.trans (FrT.of_keep HK.out)
        have HK1 := HK.out.1
        obtain ⟨A4, c4, rfl, hc4⟩ := Kd.Q_slice HQ4.out
        have hsz : ((wr.alloc (.cells #[.string y.f0, .string y.f1, .int .i64 y.f2] 120)).setCell ⟨g, 2, none⟩ (.slice A1 ys.length c1)).heap.size = wr.heap.size + 1 := by simp [World.setCell]
        clear hne hne2 P2 F2 p2 q2 h0 h1 h2 HB1 HF HQ2 HQ3 HQ4 HQ5 HBK HBW HK
        generalize hbx : wr.heap.size = bx at *
        generalize (wr.alloc (.cells #[.string y.f0, .string y.f1, .int .i64 y.f2] 120)).setCell ⟨g, 2, none⟩ (.slice A1 ys.length c1) = Wy at *
        have hnx : (Wy.drewN nd).heap.size ≠ g := Nat.ne_of_gt (blk_lt (show (Wy.drewN nd).heap[g]? = some _ from hg1))
        have XS : Aside0 (base ≤ ((Wy.drewN nd).alloc (.cells #[.int .i64 hh] 3)).heap.size) := ⟨by rw [World.size_alloc]; have := XS0.out; exact Nat.le_succ_of_le (Nat.le_trans this HK1)⟩
        have XG := Aside0.mk (blk_alloc (blk_drewN hg1 nd) (.cells #[.int .i64 hh] 3))
        have XB := Aside0.mk (blk_alloc (blk_drewN XB0 nd) (.cells #[.int .i64 hh] 3))
        have XH := Aside0.mk (blk_new (Wy.drewN nd) (.cells #[.int .i64 hh] 3))
        have X2 := Aside0.mk (Kd.Q_alloc (Kd.Q_drewN X20.out nd) (.cells #[.int .i64 hh] 3))
        have X3 := Aside0.mk (Kd.Q_alloc (Kd.Q_drewN X30.out nd) (.cells #[.int .i64 hh] 3))
        have X4 := Aside0.mk (Kd.Q_alloc (Kd.Q_drewN X40.out nd) (.cells #[.int .i64 hh] 3))
        have XD := Aside0.mk ((pw_below_drewN XD0 nd).alloc (Nat.le_trans XS0.out HK1) (.cells #[.int .i64 hh] 3))
        have XF := Aside0.mk (XF0.trans (FrT.of_below ((pw_below_drewN (Below.refl Wy.heap.size Wy) nd).alloc (Nat.le_refl _) (.cells #[.int .i64 hh] 3))))
        have XNE : Aside0 (some (Wy.drewN nd).heap.size ≠ (Value.slice A4 gh.length c4).ownBlock) := ⟨fun he => by have := Kd.Q_lt (Kd.Q_drewN X40.out nd) _ he.symm; omega⟩
        have XH1 := XH.out
        have XNE1 := XNE.out
        rw [show (Wy.drewN nd).heap.size = bx + 1 from hsz] at XH1 XNE1
        clear XH XNE hnx
        have XH := Aside0.mk XH1
        have XNE := Aside0.mk XNE1
        clear XH1 XNE1 X20 X30 X40 XB0 XD0 XF0 HK1 XS0 hg1 hsz
        generalize (Wy.drewN nd).alloc (.cells #[.int .i64 hh] 3) = Wx at *
        have s4 := (cells5 XG.out).1.2.2.2.2
        have s5 : Wx.cell? ⟨bx + 1, 0, none⟩ = some (.int .i64 hh) := (blk_cell XH.out 0).trans rfl
        replace X2 := Aside0.mk (Kd.Q_drew X2.out)
        replace X3 := Aside0.mk (Kd.Q_drew X3.out)
        replace X4 := Aside0.mk (Kd.Q_drew X4.out)
        replace XG := Aside0.mk (blk_drew XG.out)
        replace XB := Aside0.mk (blk_drew XB.out)
        replace XH := Aside0.mk (blk_drew XH.out)
        replace XD := Aside0.mk XD.out.drew
        replace XS : Aside0 (base ≤ Wx.drew.heap.size) := ⟨XS.out⟩
        replace XF : Aside0 (FrT g w Wx.drew) := ⟨XF.out.trans (FrT.of_below (Below.refl Wx.heap.size Wx).drew)⟩
        refine start_ (n := 13) (S := fun w' => w'.cell? ⟨g, 4, none⟩ = some (.slice A4 gh.length c4) ∧ w'.cell? ⟨bx + 1, 0, none⟩ = some (.int .i64 hh)) (ds := [12]) #[false, false, false, false, false, false, false, false, false, false, false, false, false] (by kernel_rfl) rfl rfl ⟨s4, s5⟩ (fun hHeld => ?_)
        clear s4 s5
        generalize Wx.drew = Wx at *
        refine pure_ (i := 0) (N := some 43) (v := ?_) (a' := ?_) #[true, false, false, false, false, false, false, false, false, false, false, false, false] rfl rfl (by kernel_rfl) (fun _ _ _ h => h) (Or.inl ⟨by rfl, ?_⟩) ?_ ?_
        rotate_left
        · intro w'
          go_simp
          with_reducible rfl
        rotate_left
        · simp only [Act.put, lz1, lz2, lz3, i64_w, i32_w]
          rfl
        refine pure_ (i := 1) (N := some 44) (v := ?_) (a' := ?_) #[true, true, false, false, false, false, false, false, false, false, false, false, false] rfl rfl (by kernel_rfl) (fun _ _ _ h => h) (Or.inl ⟨by rfl, ?_⟩) ?_ ?_
        rotate_left
        · intro w'
          go_simp
          with_reducible rfl
        rotate_left
        · simp only [Act.put, lz1, lz2, lz3, i64_w, i32_w]
          rfl
        refine pure_ (i := 2) (N := some 45) (v := ?_) (a' := ?_) #[true, true, true, false, false, false, false, false, false, false, false, false, false] rfl rfl (by kernel_rfl) (fun _ _ _ h => h) (Or.inl ⟨by rfl, ?_⟩) ?_ ?_
        rotate_left
        · intro w'
          go_simp
          with_reducible rfl
        rotate_left
        · simp only [Act.put, lz1, lz2, lz3, i64_w, i32_w]
          rfl
        refine pure_ (i := 3) (N := some 46) (v := ?_) (a' := ?_) #[true, true, true, true, false, false, false, false, false, false, false, false, false] rfl rfl (by kernel_rfl) (fun _ _ _ h => h) (Or.inl ⟨by rfl, ?_⟩) ?_ ?_
        rotate_left
        · intro w'
          go_simp
          with_reducible rfl
        rotate_left
        · simp only [Act.put, lz1, lz2, lz3, i64_w, i32_w]
          rfl
        refine pure_ (i := 5) (N := some 48) (v := ?_) (a' := ?_) #[true, true, true, true, false, true, false, false, false, false, false, false, false] rfl rfl (by kernel_rfl) (fun _ _ _ h => h) (Or.inl ⟨by rfl, ?_⟩) ?_ ?_
        rotate_left
        · intro w'
          go_simp
          with_reducible rfl
        rotate_left
        · simp only [Act.put, lz1, lz2, lz3, i64_w, i32_w]
          rfl
        refine take_ (i := 4) (N := some 47) (v := ?_) (a' := ?_) #[true, true, true, true, true, true, false, false, false, false, false, false, false] rfl rfl (by kernel_rfl) (fun _ _ _ h => h) (Or.inl ⟨by rfl, ?_⟩) hHeld ?_ ?_
        rotate_left
        · rintro w' ⟨s0, s1⟩
          go_simp
          with_reducible rfl
        rotate_left
        · simp only [Act.put, lz1, lz2, lz3, i64_w, i32_w]
          rfl
        refine take_ (i := 7) (N := some 50) (v := ?_) (a' := ?_) #[true, true, true, true, true, true, false, true, false, false, false, false, false] rfl rfl (by kernel_rfl) (fun _ _ _ h => h) (Or.inl ⟨by rfl, ?_⟩) hHeld ?_ ?_
        rotate_left
        · rintro w' ⟨s0, s1⟩
          go_simp
          with_reducible rfl
        rotate_left
        · simp only [Act.put, lz1, lz2, lz3, i64_w, i32_w]
          rfl
        refine two_ (i := 6) (j := 8) (Ni := some 49) (Nj := some 51) #[true, true, true, true, true, true, true, true, false, false, false, false, false] #[true, true, true, true, true, true, false, true, true, false, false, false, false] rfl rfl rfl rfl (by kernel_rfl) (by decide) (by decide) (fun K hK => ?_) (fun K hK => ?_)
        · refine goes_ Try.func161 (by kernel_rfl) rfl #[.slice A4 gh.length c4, .func (.func 197) #[] #[.pointer (some ⟨bx + 1, 0, none⟩)]] (by rfl) rfl rfl (by (try simp only [List.map_toArray, List.map_cons, List.map_nil]); first | done | rfl) ?_
          (with_reducible refine (delI197.own A4 c4 base (bx + 1) gh hh (fun _ => True) w0 _ X4.out ((blk_cell XH.out 0).trans rfl) XNE.out XD.out XS.out (by have := HL.out.2; omega)).mono ?_)
          rintro e w5 ⟨vf, rfl, ho, hb, hg, hvo⟩
          refine ⟨_, rfl, ?_⟩
          have HTY := Kd.Q_typed X4.out
          have Y2 := Aside0.mk (Q_grownT X2.out hg HTY (by decide))
          have Y3 := Aside0.mk (Q_grownT X3.out hg HTY (by decide))
          have YG := Aside0.mk (blk_grown XG.out hg (Kd.Q_ne X4.out XG.out (by decide)))
          have YB := Aside0.mk (blk_grown XB.out hg (Kd.Q_ne X4.out XB.out (by decide)))
          have YH := Aside0.mk (blk_grown XH.out hg XNE.out)
          have Y4 := Aside0.mk ho
          have YD := Aside0.mk hb
          have YS := Aside0.mk (Nat.le_trans XS.out hg.size)
          have YF := Aside0.mk (XF.out.trans (FrT.of_grown (g := g) hg (fun k hk => by obtain ⟨cells, hc⟩ := HTY k hk; exact ⟨cells, 3, hc, .inr rfl⟩)))
          have YVO := Aside0.mk hvo
          have YNE := Aside0.mk (show some (bx + 1) ≠ vf.ownBlock by rw [hvo]; exact XNE.out)
          clear hvo
          clear HTY ho hb hg X2 X3 X4 XG XB XH XD XS XF XNE
          refine hK.out _ _ ⟨(cells5 YG.out).1.2.2.2.2, (blk_cell YH.out 0).trans rfl⟩ (fun hHeld => ?_)
          clear hK K
          refine norm_ (a' := ?_) ?_ ?_
          rotate_left
          · show Act.put _ (some 49) _ = _
            simp only [Act.put, lz1, lz2, lz3, i64_w, i32_w]
            rfl
          refine one_ (i := 8) (N := some 51) #[true, true, true, true, true, true, true, true, true, false, false, false, false] rfl rfl (by kernel_rfl) (by decide) (fun K hK => ?_)
          refine event_step (v := .slice (some ⟨w5.heap.size, 0, none⟩) 1 1) (w1 := w5.alloc (.cells #[.int .i64 hh] 3)) rfl (by first | (go_simp; done) | (go_simp; rfl)) ?_
          have Z2 := Aside0.mk (Kd.Q_alloc Y2.out (.cells #[.int .i64 hh] 3))
          have Z3 := Aside0.mk (Kd.Q_alloc Y3.out (.cells #[.int .i64 hh] 3))
          have Z4 := Aside0.mk (Kd.Q_alloc Y4.out (.cells #[.int .i64 hh] 3))
          have ZG := Aside0.mk (blk_alloc YG.out (.cells #[.int .i64 hh] 3))
          have ZB := Aside0.mk (blk_alloc YB.out (.cells #[.int .i64 hh] 3))
          have ZH := Aside0.mk (blk_alloc YH.out (.cells #[.int .i64 hh] 3))
          have ZN := Aside0.mk (blk_new w5 (.cells #[.int .i64 hh] 3))
          have ZD := Aside0.mk (YD.out.alloc YS.out (.cells #[.int .i64 hh] 3))
          have ZS : Aside0 (base ≤ (w5.alloc (.cells #[.int .i64 hh] 3)).heap.size) := ⟨by rw [World.size_alloc]; exact Nat.le_succ_of_le YS.out⟩
          have ZF := Aside0.mk (YF.out.trans (FrT.of_below ((Below.refl w5.heap.size w5).alloc (Nat.le_refl _) (.cells #[.int .i64 hh] 3))))
          refine hK.out _ _ ⟨(cells5 ZG.out).1.2.2.2.2, (blk_cell ZH.out 0).trans rfl⟩ (fun hHeld => ?_)
          clear hK K
          refine norm_ (a' := ?_) ?_ ?_
          rotate_left
          · show Act.put _ (some 51) _ = _
            simp only [Act.put, lz1, lz2, lz3, i64_w, i32_w]
            rfl
          clear Y2 Y3 Y4 YG YB YH YD YS YF
          refine one_ (i := 9) (N := some 52) #[true, true, true, true, true, true, true, true, true, true, false, false, false] rfl rfl (by kernel_rfl) (by decide) (fun K hK => ?_)
          refine Q_append_stepAt (Kd.int .i64) (w0 := w0) base rfl (.tmp 49) (.tmp 51) 63 3 (.int .i64 0) 8 rfl Try.underlying63 info3 rfl (by decide) (by omega) vf (gh.filter (fun x => x != hh)) hh [.int .i64 hh] ⟨w5.heap.size, 0, none⟩ 1 (fun j u hj => by
            cases j with
            | zero => simp at hj; subst hj; exact (blk_cell ZN.out 0).trans rfl
            | succ j => simp at hj) (fun _ => True) (fun _ => False) rfl rfl (int_M _ _ _ _) (fun _ hk => hk.elim) (fun _ _ => trivial) Z4.out ZD.out ZS.out (by have h1 := HL.out.2; have h2 := List.length_filter_le (fun x => x != hh) gh; omega) (fun v6 w6 ho hb hg hat => ?_)
          obtain ⟨z2, hz2⟩ : ∃ z : List Int, z = gh.filter (fun x => x != hh) ++ [hh] := ⟨_, rfl⟩
          rw [← hz2] at ho
          have HZ2 := Aside0.mk hz2
          clear hz2
          obtain ⟨A6, c6, rfl, hc6⟩ := Kd.Q_slice ho
          have HTY := Kd.Q_typed Z4.out
          have P2 := Aside0.mk (Q_grownT Z2.out hg HTY (by decide))
          have P3 := Aside0.mk (Q_grownT Z3.out hg HTY (by decide))
          have PG := Aside0.mk (blk_grown ZG.out hg (Kd.Q_ne Z4.out ZG.out (by decide)))
          have PB := Aside0.mk (blk_grown ZB.out hg (Kd.Q_ne Z4.out ZB.out (by decide)))
          have PH := Aside0.mk (blk_grown ZH.out hg YNE.out)
          have P4 := Aside0.mk ho
          have PD := Aside0.mk hb
          have PS := Aside0.mk (Nat.le_trans ZS.out hg.size)
          have PF := Aside0.mk (ZF.out.trans (FrT.of_grown (g := g) hg (fun k hk => by obtain ⟨cells, hc⟩ := HTY k hk; exact ⟨cells, 3, hc, .inr rfl⟩)))
          clear HTY ho hb hg hat Z2 Z3 Z4 ZG ZB ZH ZD ZS ZF ZN
          refine hK.out _ _ ⟨(cells5 PG.out).1.2.2.2.2, (blk_cell PH.out 0).trans rfl⟩ (fun hHeld => ?_)
          clear hK K
          refine norm_ (a' := ?_) ?_ ?_
          rotate_left
          · show Act.put _ (some 52) _ = _
            simp only [Act.put, lz1, lz2, lz3, i64_w, i32_w]
            rfl
          refine pure_ (i := 10) (N := some 53) (v := ?_) (a' := ?_) #[true, true, true, true, true, true, true, true, true, true, true, false, false] rfl rfl (by kernel_rfl) (fun _ _ _ h => h) (Or.inl ⟨by rfl, ?_⟩) ?_ ?_
          rotate_left
          · intro w'
            go_simp
            with_reducible rfl
          rotate_left
          · simp only [Act.put, lz1, lz2, lz3, i64_w, i32_w]
            rfl
          refine pure_ (i := 11) (N := some 54) (v := ?_) (a' := ?_) #[true, true, true, true, true, true, true, true, true, true, true, true, false] rfl rfl (by kernel_rfl) (fun _ _ _ h => h) (Or.inl ⟨by rfl, ?_⟩) ?_ ?_
          rotate_left
          · intro w'
            go_simp
            with_reducible rfl
          rotate_left
          · simp only [Act.put, lz1, lz2, lz3, i64_w, i32_w]
            rfl
          refine last_ (i := 12) (N := none) #[true, true, true, true, true, true, true, true, true, true, true, true, true] rfl rfl (by kernel_rfl) (by decide) (fun K hK => ?_)
          have s4 : w6.cell? ⟨g, 4, none⟩ = some (.slice A4 gh.length c4) := (cells5 PG.out).1.2.2.2.2
          have f4 : w6.frozen? ⟨g, 4, none⟩ = false := blk_frozen PG.out 4
          refine skip_ rfl rfl (w1 := w6.setCell ⟨g, 4, none⟩ (.slice A6 z2.length c6)) (by go_simp) ?_
          refine hK.out _ _ ?_
          clear hK K s4 f4 hHeld
          refine done_ (by kernel_rfl) ?_
          have G2 := Aside0.mk (Kd.Q_set P2.out PG.out (by decide) 4 (.slice A6 z2.length c6))
          have G3 := Aside0.mk (Kd.Q_set P3.out PG.out (by decide) 4 (.slice A6 z2.length c6))
          have G4 := Aside0.mk (Kd.Q_set P4.out PG.out (by decide) 4 (.slice A6 z2.length c6))
          have GG := Aside0.mk (blk_put PG.out 4 (.slice A6 z2.length c6) rfl)
          have GX := Aside0.mk (blk_far PB.out (p := ⟨g, 4, none⟩) (fun he => by have h1 := PB.out; rw [show bx = g from he, PG.out] at h1; simp at h1) (.slice A6 z2.length c6))
          have GD := Aside0.mk (PD.out.setCell (p := ⟨g, 4, none⟩) HGB.out (.slice A6 z2.length c6))
          have GS : Aside0 (base ≤ (w6.setCell ⟨g, 4, none⟩ (.slice A6 z2.length c6)).heap.size) := ⟨by simpa [World.setCell] using PS.out⟩
          have GF := Aside0.mk (PF.out.trans (FrT.set w6 4 (.slice A6 z2.length c6)))
          clear P2 P3 P4 PG PB PH PD PS PF
          go_wp2
          have s4 := (cells5 GG.out).1.2.2.2.2
          refine start_ (n := 8) (S := fun w' => w'.cell? ⟨g, 4, none⟩ = some (.slice A6 z2.length c6)) (ds := []) #[false, false, false, false, false, false, false, false] (by kernel_rfl) rfl rfl s4 (fun hHeld => ?_)
          clear s4
          refine pure_ (i := 0) (N := some 55) (v := ?_) (a' := ?_) #[true, false, false, false, false, false, false, false] rfl rfl (by kernel_rfl) (fun _ _ _ h => h) (Or.inl ⟨by rfl, ?_⟩) ?_ ?_
          rotate_left
          · intro w'
            go_simp
            with_reducible rfl
          rotate_left
          · simp only [Act.put, lz1, lz2, lz3, i64_w, i32_w]
            rfl
          refine pure_ (i := 1) (N := some 56) (v := ?_) (a' := ?_) #[true, true, false, false, false, false, false, false] rfl rfl (by kernel_rfl) (fun _ _ _ h => h) (Or.inl ⟨by rfl, ?_⟩) ?_ ?_
          rotate_left
          · intro w'
            go_simp
            with_reducible rfl
          rotate_left
          · simp only [Act.put, lz1, lz2, lz3, i64_w, i32_w]
            rfl
          refine pure_ (i := 2) (N := some 57) (v := ?_) (a' := ?_) #[true, true, true, false, false, false, false, false] rfl rfl (by kernel_rfl) (fun _ _ _ h => h) (Or.inl ⟨by rfl, ?_⟩) ?_ ?_
          rotate_left
          · intro w'
            go_simp
            with_reducible rfl
          rotate_left
          · simp only [Act.put, lz1, lz2, lz3, i64_w, i32_w]
            rfl
          refine take_ (i := 3) (N := some 58) (v := ?_) (a' := ?_) #[true, true, true, true, false, false, false, false] rfl rfl (by kernel_rfl) (fun _ _ _ h => h) (Or.inl ⟨by rfl, ?_⟩) hHeld ?_ ?_
          rotate_left
          · rintro w' s0
            go_simp
            with_reducible rfl
          rotate_left
          · simp only [Act.put, lz1, lz2, lz3, i64_w, i32_w]
            rfl
          refine pure_ (i := 4) (N := some 59) (v := ?_) (a' := ?_) #[true, true, true, true, true, false, false, false] rfl rfl (by kernel_rfl) (fun _ _ _ h => h) (Or.inl ⟨by rfl, ?_⟩) ?_ ?_
          rotate_left
          · intro w'
            go_simp
            with_reducible rfl
          rotate_left
          · simp only [Act.put, lz1, lz2, lz3, i64_w, i32_w]
            rfl
          refine pure_ (i := 5) (N := some 60) (v := ?_) (a' := ?_) #[true, true, true, true, true, true, false, false] rfl rfl (by kernel_rfl) (fun _ _ _ h => h) (Or.inl ⟨by rfl, ?_⟩) ?_ ?_
          rotate_left
          · intro w'
            go_simp
            with_reducible rfl
          rotate_left
          · simp only [Act.put, lz1, lz2, lz3, i64_w, i32_w]
            rfl
          refine one_ (i := 6) (N := some 61) #[true, true, true, true, true, true, true, false] rfl rfl (by kernel_rfl) (by decide) (fun K hK => ?_)
          have GW := Aside0.mk (blk_drew GG.out)
          refine goes_ Try.func106 (by kernel_rfl) rfl #[.pointer (some ⟨g, 0, none⟩)] (by rfl) rfl rfl (by (try simp only [List.map_toArray, List.map_cons, List.map_nil]); first | done | rfl) ?_
          (with_reducible refine (ghosts_raw g cp mo _ _ _ _ GW.out).mono ?_)
          rw [HZZ.out]
          rintro e w7 ⟨rfl, hb⟩
          refine ⟨_, rfl, ?_⟩
          have J2 := Aside0.mk (Kd.Q_below (Kd.Q_drew G2.out) hb)
          have J3 := Aside0.mk (Kd.Q_below (Kd.Q_drew G3.out) hb)
          have J4 := Aside0.mk (Kd.Q_below (Kd.Q_drew G4.out) hb)
          have JG := Aside0.mk (blk_below GW.out hb)
          have JX := Aside0.mk (blk_below (blk_drew GX.out) hb)
          have JD := Aside0.mk (below_then GD.out.drew GS.out hb)
          have JF := Aside0.mk (GF.out.trans (FrT.of_below (w := w6.drew.setCell ⟨g, 4, none⟩ (.slice A6 z2.length c6)) ⟨hb.os, hb.tape, hb.output, hb.size, hb.block⟩))
          clear hb G2 G3 G4 GG GX GD GF GS GW
          refine hK.out _ _ ((cells5 JG.out).1.2.2.2.2) (fun hHeld => ?_)
          clear hK K
          refine norm_ (a' := ?_) ?_ ?_
          rotate_left
          · show Act.put _ (some 61) _ = _
            simp only [Act.put, lz1, lz2, lz3, i64_w, i32_w]
            rfl
          obtain ⟨r1, r2, r3⟩ := (cells3 JX.out).1
          have HNZ := Aside0.mk (show 1 ≤ z2.length by rw [HZ2.out]; simp)
          by_cases hlen : z < (z2.length : Int)
          · have hl1 : decide (z < (z2.length : Int)) = true := decide_eq_true hlen
            refine pure_ (i := 7) (N := some 62) (v := ?_) (a' := ?_) #[true, true, true, true, true, true, true, true] rfl rfl (by kernel_rfl) (fun _ _ _ h => h) (Or.inl ⟨by rfl, ?_⟩) ?_ ?_
            rotate_left
            · intro w'
              go_simp
              with_reducible rfl
            rotate_left
            · simp only [Act.put, lz1, lz2, lz3, i64_w, i32_w]
              rfl
            refine done_ (by kernel_rfl) ?_
            clear hHeld
            have HRES := Aside0.mk (show ghostPut cp mo gh hh = z2.drop 1 by unfold ghostPut; rw [← HZ2.out, HZZ.out, if_pos hlen])
            clear hlen
            obtain ⟨z0, zt, rfl⟩ : ∃ z0 zt, z2 = z0 :: zt := by
              cases z2 with
              | nil => exact absurd HNZ.out (by simp)
              | cons a b => exact ⟨a, b, rfl⟩
            obtain ⟨g6, o6, cc, hv6, _, _, _⟩ := Kd.Q_form J4.out (by simp)
            injection hv6 with ha6 hl6 hc6
            subst ha6
            subst hc6
            clear hl6
            obtain ⟨⟨_, _, _, _, s4⟩, _, _, _, _, f4⟩ := cells5 JG.out
            have hcut0 := cut_from (P := Try.prog) 63 3 .i64 Try.underlying63 (info_parts info3).choose_spec.1 1 (info_parts info3).choose_spec.2.2.1 (some ⟨g6, o6, none⟩) (z0 :: zt).length c6 1 (by omega) (by simp; omega)
            have hr1 := Kd.Q_drop (k := (1 : Int).toNat) J4.out (by simp)
            obtain ⟨A7, hA7⟩ : ∃ A7, A7 = (if c6 = (1 : Int).toNat then (some ⟨g6, o6, none⟩) else (some ⟨g6, o6, none⟩ : Option Addr).map (·.add ((1 : Int).toNat * 1))) := ⟨_, rfl⟩
            obtain ⟨c7, hcc7⟩ : ∃ c7, c7 = c6 - (1 : Int).toNat := ⟨_, rfl⟩
            rw [← hA7, ← hcc7] at hcut0
            have hr2 : Kd.Q (Kd.int .i64) 3 w7 base (fun _ => True) (.slice A7 zt.length c7) zt := by rw [hA7, hcc7]; exact hr1
            have hcut : ∀ W_ : World, (Instr.slice 63 (.slice (some ⟨g6, o6, none⟩) (zt.length + 1) c6) (some (.int .i64 1)) none none).run Try.prog W_ = .ok (.slice A7 zt.length c7) W_ := hcut0
            have HJ5 := Aside0.mk hr2
            have hbg : bx ≠ g := fun he => by have h1 := JX.out; rw [he, JG.out] at h1; simp at h1
            have hgb := hbg.symm
            have hl2 : decide (z < (zt.length : Int) + 1) = true := by simpa using hl1
            clear hr1 hr2 hcut0 hA7 hcc7 hl1
            go_wp2
            go_ret2
            exact ⟨rfl, ⟨_, _, _, blk_put JG.out 4 (.slice A7 zt.length c7) rfl, Kd.Q_set J2.out JG.out (by decide) 4 _, Kd.Q_set J3.out JG.out (by decide) 4 _, by rw [HRES.out]; exact Kd.Q_set HJ5.out JG.out (by decide) 4 _⟩, JD.out.setCell (p := ⟨g, 4, none⟩) HGB.out _, JF.out.trans (FrT.set w7 4 _)⟩
          · have hl1 : decide (z < (z2.length : Int)) = false := decide_eq_false hlen
            refine pure_ (i := 7) (N := some 62) (v := ?_) (a' := ?_) #[true, true, true, true, true, true, true, true] rfl rfl (by kernel_rfl) (fun _ _ _ h => h) (Or.inl ⟨by rfl, ?_⟩) ?_ ?_
            rotate_left
            · intro w'
              go_simp
              with_reducible rfl
            rotate_left
            · simp only [Act.put, lz1, lz2, lz3, i64_w, i32_w]
              rfl
            refine done_ (by kernel_rfl) ?_
            clear hHeld
            have HRES := Aside0.mk (show ghostPut cp mo gh hh = z2 by unfold ghostPut; rw [← HZ2.out, HZZ.out, if_neg hlen])
            clear hlen
            go_wp2
            go_ret2
            exact ⟨rfl, ⟨_, _, _, JG.out, J2.out, J3.out, by rw [HRES.out]; exact J4.out⟩, JD.out, JF.out⟩
        · refine event_step (v := .slice (some ⟨Wx.heap.size, 0, none⟩) 1 1) (w1 := Wx.alloc (.cells #[.int .i64 hh] 3)) rfl (by first | (go_simp; done) | (go_simp; rfl)) ?_
          have Z2 := Aside0.mk (Kd.Q_alloc X2.out (.cells #[.int .i64 hh] 3))
          have Z3 := Aside0.mk (Kd.Q_alloc X3.out (.cells #[.int .i64 hh] 3))
          have Z4 := Aside0.mk (Kd.Q_alloc X4.out (.cells #[.int .i64 hh] 3))
          have ZG := Aside0.mk (blk_alloc XG.out (.cells #[.int .i64 hh] 3))
          have ZB := Aside0.mk (blk_alloc XB.out (.cells #[.int .i64 hh] 3))
          have ZH := Aside0.mk (blk_alloc XH.out (.cells #[.int .i64 hh] 3))
          have ZN := Aside0.mk (blk_new Wx (.cells #[.int .i64 hh] 3))
          have ZD := Aside0.mk (XD.out.alloc XS.out (.cells #[.int .i64 hh] 3))
          have ZS : Aside0 (base ≤ (Wx.alloc (.cells #[.int .i64 hh] 3)).heap.size) := ⟨by rw [World.size_alloc]; exact Nat.le_succ_of_le XS.out⟩
          have ZF := Aside0.mk (XF.out.trans (FrT.of_below ((Below.refl Wx.heap.size Wx).alloc (Nat.le_refl _) (.cells #[.int .i64 hh] 3))))
          have ZNE := Aside0.mk (show some Wx.heap.size ≠ (Value.slice A4 gh.length c4).ownBlock from fun he => by have := Kd.Q_lt X4.out _ he.symm; omega)
          clear X2 X3 X4 XG XB XH XD XS XF
          refine hK.out _ _ ⟨(cells5 ZG.out).1.2.2.2.2, (blk_cell ZH.out 0).trans rfl⟩ (fun hHeld => ?_)
          clear hK K
          refine norm_ (a' := ?_) ?_ ?_
          rotate_left
          · show Act.put _ (some 51) _ = _
            simp only [Act.put, lz1, lz2, lz3, i64_w, i32_w]
            rfl
          refine one_ (i := 6) (N := some 49) #[true, true, true, true, true, true, true, true, true, false, false, false, false] rfl rfl (by kernel_rfl) (by decide) (fun K hK => ?_)
          refine goes_ Try.func161 (by kernel_rfl) rfl #[.slice A4 gh.length c4, .func (.func 197) #[] #[.pointer (some ⟨bx + 1, 0, none⟩)]] (by rfl) rfl rfl (by (try simp only [List.map_toArray, List.map_cons, List.map_nil]); first | done | rfl) ?_
          (with_reducible refine (delI197.own A4 c4 base (bx + 1) gh hh (fun _ => True) w0 _ Z4.out ((blk_cell ZH.out 0).trans rfl) XNE.out ZD.out ZS.out (by have := HL.out.2; omega)).mono ?_)
          rintro e w5 ⟨vf, rfl, ho, hb, hg, hvo⟩
          refine ⟨_, rfl, ?_⟩
          have HTY := Kd.Q_typed Z4.out
          have Y2 := Aside0.mk (Q_grownT Z2.out hg HTY (by decide))
          have Y3 := Aside0.mk (Q_grownT Z3.out hg HTY (by decide))
          have YG := Aside0.mk (blk_grown ZG.out hg (Kd.Q_ne Z4.out ZG.out (by decide)))
          have YB := Aside0.mk (blk_grown ZB.out hg (Kd.Q_ne Z4.out ZB.out (by decide)))
          have YH := Aside0.mk (blk_grown ZH.out hg XNE.out)
          have Y4 := Aside0.mk ho
          have YD := Aside0.mk hb
          have YS := Aside0.mk (Nat.le_trans ZS.out hg.size)
          have YF := Aside0.mk (ZF.out.trans (FrT.of_grown (g := g) hg (fun k hk => by obtain ⟨cells, hc⟩ := HTY k hk; exact ⟨cells, 3, hc, .inr rfl⟩)))
          have YNE := Aside0.mk (show some (bx + 1) ≠ vf.ownBlock by rw [hvo]; exact XNE.out)
          have YN := Aside0.mk (blk_grown ZN.out hg ZNE.out)
          clear hvo
          clear HTY ho hb hg Z2 Z3 Z4 ZG ZB ZH ZD ZS ZF XNE
          refine hK.out _ _ ⟨(cells5 YG.out).1.2.2.2.2, (blk_cell YH.out 0).trans rfl⟩ (fun hHeld => ?_)
          clear hK K
          refine norm_ (a' := ?_) ?_ ?_
          rotate_left
          · show Act.put _ (some 49) _ = _
            simp only [Act.put, lz1, lz2, lz3, i64_w, i32_w]
            rfl
          refine one_ (i := 9) (N := some 52) #[true, true, true, true, true, true, true, true, true, true, false, false, false] rfl rfl (by kernel_rfl) (by decide) (fun K hK => ?_)
          refine Q_append_stepAt (Kd.int .i64) (w0 := w0) base rfl (.tmp 49) (.tmp 51) 63 3 (.int .i64 0) 8 rfl Try.underlying63 info3 rfl (by decide) (by omega) vf (gh.filter (fun x => x != hh)) hh [.int .i64 hh] ⟨Wx.heap.size, 0, none⟩ 1 (fun j u hj => by
            cases j with
            | zero => simp at hj; subst hj; exact (blk_cell YN.out 0).trans rfl
            | succ j => simp at hj) (fun _ => True) (fun _ => False) rfl rfl (int_M _ _ _ _) (fun _ hk => hk.elim) (fun _ _ => trivial) Y4.out YD.out YS.out (by have h1 := HL.out.2; have h2 := List.length_filter_le (fun x => x != hh) gh; omega) (fun v6 w6 ho hb hg hat => ?_)
          obtain ⟨z2, hz2⟩ : ∃ z : List Int, z = gh.filter (fun x => x != hh) ++ [hh] := ⟨_, rfl⟩
          rw [← hz2] at ho
          have HZ2 := Aside0.mk hz2
          clear hz2
          obtain ⟨A6, c6, rfl, hc6⟩ := Kd.Q_slice ho
          have HTY := Kd.Q_typed Y4.out
          have P2 := Aside0.mk (Q_grownT Y2.out hg HTY (by decide))
          have P3 := Aside0.mk (Q_grownT Y3.out hg HTY (by decide))
          have PG := Aside0.mk (blk_grown YG.out hg (Kd.Q_ne Y4.out YG.out (by decide)))
          have PB := Aside0.mk (blk_grown YB.out hg (Kd.Q_ne Y4.out YB.out (by decide)))
          have PH := Aside0.mk (blk_grown YH.out hg YNE.out)
          have P4 := Aside0.mk ho
          have PD := Aside0.mk hb
          have PS := Aside0.mk (Nat.le_trans YS.out hg.size)
          have PF := Aside0.mk (YF.out.trans (FrT.of_grown (g := g) hg (fun k hk => by obtain ⟨cells, hc⟩ := HTY k hk; exact ⟨cells, 3, hc, .inr rfl⟩)))
          clear HTY ho hb hg hat Y2 Y3 Y4 YG YB YH YD YS YF YN
          refine hK.out _ _ ⟨(cells5 PG.out).1.2.2.2.2, (blk_cell PH.out 0).trans rfl⟩ (fun hHeld => ?_)
          clear hK K
          refine norm_ (a' := ?_) ?_ ?_
          rotate_left
          · show Act.put _ (some 52) _ = _
            simp only [Act.put, lz1, lz2, lz3, i64_w, i32_w]
            rfl
          refine pure_ (i := 10) (N := some 53) (v := ?_) (a' := ?_) #[true, true, true, true, true, true, true, true, true, true, true, false, false] rfl rfl (by kernel_rfl) (fun _ _ _ h => h) (Or.inl ⟨by rfl, ?_⟩) ?_ ?_
          rotate_left
          · intro w'
            go_simp
            with_reducible rfl
          rotate_left
          · simp only [Act.put, lz1, lz2, lz3, i64_w, i32_w]
            rfl
          refine pure_ (i := 11) (N := some 54) (v := ?_) (a' := ?_) #[true, true, true, true, true, true, true, true, true, true, true, true, false] rfl rfl (by kernel_rfl) (fun _ _ _ h => h) (Or.inl ⟨by rfl, ?_⟩) ?_ ?_
          rotate_left
          · intro w'
            go_simp
            with_reducible rfl
          rotate_left
          · simp only [Act.put, lz1, lz2, lz3, i64_w, i32_w]
            rfl
          refine last_ (i := 12) (N := none) #[true, true, true, true, true, true, true, true, true, true, true, true, true] rfl rfl (by kernel_rfl) (by decide) (fun K hK => ?_)
          have s4 : w6.cell? ⟨g, 4, none⟩ = some (.slice A4 gh.length c4) := (cells5 PG.out).1.2.2.2.2
          have f4 : w6.frozen? ⟨g, 4, none⟩ = false := blk_frozen PG.out 4
          refine skip_ rfl rfl (w1 := w6.setCell ⟨g, 4, none⟩ (.slice A6 z2.length c6)) (by go_simp) ?_
          refine hK.out _ _ ?_
          clear hK K s4 f4 hHeld
          refine done_ (by kernel_rfl) ?_
          have G2 := Aside0.mk (Kd.Q_set P2.out PG.out (by decide) 4 (.slice A6 z2.length c6))
          have G3 := Aside0.mk (Kd.Q_set P3.out PG.out (by decide) 4 (.slice A6 z2.length c6))
          have G4 := Aside0.mk (Kd.Q_set P4.out PG.out (by decide) 4 (.slice A6 z2.length c6))
          have GG := Aside0.mk (blk_put PG.out 4 (.slice A6 z2.length c6) rfl)
          have GX := Aside0.mk (blk_far PB.out (p := ⟨g, 4, none⟩) (fun he => by have h1 := PB.out; rw [show bx = g from he, PG.out] at h1; simp at h1) (.slice A6 z2.length c6))
          have GD := Aside0.mk (PD.out.setCell (p := ⟨g, 4, none⟩) HGB.out (.slice A6 z2.length c6))
          have GS : Aside0 (base ≤ (w6.setCell ⟨g, 4, none⟩ (.slice A6 z2.length c6)).heap.size) := ⟨by simpa [World.setCell] using PS.out⟩
          have GF := Aside0.mk (PF.out.trans (FrT.set w6 4 (.slice A6 z2.length c6)))
          clear P2 P3 P4 PG PB PH PD PS PF
          go_wp2
          have s4 := (cells5 GG.out).1.2.2.2.2
          refine start_ (n := 8) (S := fun w' => w'.cell? ⟨g, 4, none⟩ = some (.slice A6 z2.length c6)) (ds := []) #[false, false, false, false, false, false, false, false] (by kernel_rfl) rfl rfl s4 (fun hHeld => ?_)
          clear s4
          refine pure_ (i := 0) (N := some 55) (v := ?_) (a' := ?_) #[true, false, false, false, false, false, false, false] rfl rfl (by kernel_rfl) (fun _ _ _ h => h) (Or.inl ⟨by rfl, ?_⟩) ?_ ?_
          rotate_left
          · intro w'
            go_simp
            with_reducible rfl
          rotate_left
          · simp only [Act.put, lz1, lz2, lz3, i64_w, i32_w]
            rfl
          refine pure_ (i := 1) (N := some 56) (v := ?_) (a' := ?_) #[true, true, false, false, false, false, false, false] rfl rfl (by kernel_rfl) (fun _ _ _ h => h) (Or.inl ⟨by rfl, ?_⟩) ?_ ?_
          rotate_left
          · intro w'
            go_simp
            with_reducible rfl
          rotate_left
          · simp only [Act.put, lz1, lz2, lz3, i64_w, i32_w]
            rfl
          refine pure_ (i := 2) (N := some 57) (v := ?_) (a' := ?_) #[true, true, true, false, false, false, false, false] rfl rfl (by kernel_rfl) (fun _ _ _ h => h) (Or.inl ⟨by rfl, ?_⟩) ?_ ?_
          rotate_left
          · intro w'
            go_simp
            with_reducible rfl
          rotate_left
          · simp only [Act.put, lz1, lz2, lz3, i64_w, i32_w]
            rfl
          refine take_ (i := 3) (N := some 58) (v := ?_) (a' := ?_) #[true, true, true, true, false, false, false, false] rfl rfl (by kernel_rfl) (fun _ _ _ h => h) (Or.inl ⟨by rfl, ?_⟩) hHeld ?_ ?_
          rotate_left
          · rintro w' s0
            go_simp
            with_reducible rfl
          rotate_left
          · simp only [Act.put, lz1, lz2, lz3, i64_w, i32_w]
            rfl
          refine pure_ (i := 4) (N := some 59) (v := ?_) (a' := ?_) #[true, true, true, true, true, false, false, false] rfl rfl (by kernel_rfl) (fun _ _ _ h => h) (Or.inl ⟨by rfl, ?_⟩) ?_ ?_
          rotate_left
          · intro w'
            go_simp
            with_reducible rfl
          rotate_left
          · simp only [Act.put, lz1, lz2, lz3, i64_w, i32_w]
            rfl
          refine pure_ (i := 5) (N := some 60) (v := ?_) (a' := ?_) #[true, true, true, true, true, true, false, false] rfl rfl (by kernel_rfl) (fun _ _ _ h => h) (Or.inl ⟨by rfl, ?_⟩) ?_ ?_
          rotate_left
          · intro w'
            go_simp
            with_reducible rfl
          rotate_left
          · simp only [Act.put, lz1, lz2, lz3, i64_w, i32_w]
            rfl
          refine one_ (i := 6) (N := some 61) #[true, true, true, true, true, true, true, false] rfl rfl (by kernel_rfl) (by decide) (fun K hK => ?_)
          have GW := Aside0.mk (blk_drew GG.out)
          refine goes_ Try.func106 (by kernel_rfl) rfl #[.pointer (some ⟨g, 0, none⟩)] (by rfl) rfl rfl (by (try simp only [List.map_toArray, List.map_cons, List.map_nil]); first | done | rfl) ?_
          (with_reducible refine (ghosts_raw g cp mo _ _ _ _ GW.out).mono ?_)
          rw [HZZ.out]
          rintro e w7 ⟨rfl, hb⟩
          refine ⟨_, rfl, ?_⟩
          have J2 := Aside0.mk (Kd.Q_below (Kd.Q_drew G2.out) hb)
          have J3 := Aside0.mk (Kd.Q_below (Kd.Q_drew G3.out) hb)
          have J4 := Aside0.mk (Kd.Q_below (Kd.Q_drew G4.out) hb)
          have JG := Aside0.mk (blk_below GW.out hb)
          have JX := Aside0.mk (blk_below (blk_drew GX.out) hb)
          have JD := Aside0.mk (below_then GD.out.drew GS.out hb)
          have JF := Aside0.mk (GF.out.trans (FrT.of_below (w := w6.drew.setCell ⟨g, 4, none⟩ (.slice A6 z2.length c6)) ⟨hb.os, hb.tape, hb.output, hb.size, hb.block⟩))
          clear hb G2 G3 G4 GG GX GD GF GS GW
          refine hK.out _ _ ((cells5 JG.out).1.2.2.2.2) (fun hHeld => ?_)
          clear hK K
          refine norm_ (a' := ?_) ?_ ?_
          rotate_left
          · show Act.put _ (some 61) _ = _
            simp only [Act.put, lz1, lz2, lz3, i64_w, i32_w]
            rfl
          obtain ⟨r1, r2, r3⟩ := (cells3 JX.out).1
          have HNZ := Aside0.mk (show 1 ≤ z2.length by rw [HZ2.out]; simp)
          by_cases hlen : z < (z2.length : Int)
          · have hl1 : decide (z < (z2.length : Int)) = true := decide_eq_true hlen
            refine pure_ (i := 7) (N := some 62) (v := ?_) (a' := ?_) #[true, true, true, true, true, true, true, true] rfl rfl (by kernel_rfl) (fun _ _ _ h => h) (Or.inl ⟨by rfl, ?_⟩) ?_ ?_
            rotate_left
            · intro w'
              go_simp
              with_reducible rfl
            rotate_left
            · simp only [Act.put, lz1, lz2, lz3, i64_w, i32_w]
              rfl
            refine done_ (by kernel_rfl) ?_
            clear hHeld
            have HRES := Aside0.mk (show ghostPut cp mo gh hh = z2.drop 1 by unfold ghostPut; rw [← HZ2.out, HZZ.out, if_pos hlen])
            clear hlen
            obtain ⟨z0, zt, rfl⟩ : ∃ z0 zt, z2 = z0 :: zt := by
              cases z2 with
              | nil => exact absurd HNZ.out (by simp)
              | cons a b => exact ⟨a, b, rfl⟩
            obtain ⟨g6, o6, cc, hv6, _, _, _⟩ := Kd.Q_form J4.out (by simp)
            injection hv6 with ha6 hl6 hc6
            subst ha6
            subst hc6
            clear hl6
            obtain ⟨⟨_, _, _, _, s4⟩, _, _, _, _, f4⟩ := cells5 JG.out
            have hcut0 := cut_from (P := Try.prog) 63 3 .i64 Try.underlying63 (info_parts info3).choose_spec.1 1 (info_parts info3).choose_spec.2.2.1 (some ⟨g6, o6, none⟩) (z0 :: zt).length c6 1 (by omega) (by simp; omega)
            have hr1 := Kd.Q_drop (k := (1 : Int).toNat) J4.out (by simp)
            obtain ⟨A7, hA7⟩ : ∃ A7, A7 = (if c6 = (1 : Int).toNat then (some ⟨g6, o6, none⟩) else (some ⟨g6, o6, none⟩ : Option Addr).map (·.add ((1 : Int).toNat * 1))) := ⟨_, rfl⟩
            obtain ⟨c7, hcc7⟩ : ∃ c7, c7 = c6 - (1 : Int).toNat := ⟨_, rfl⟩
            rw [← hA7, ← hcc7] at hcut0
            have hr2 : Kd.Q (Kd.int .i64) 3 w7 base (fun _ => True) (.slice A7 zt.length c7) zt := by rw [hA7, hcc7]; exact hr1
            have hcut : ∀ W_ : World, (Instr.slice 63 (.slice (some ⟨g6, o6, none⟩) (zt.length + 1) c6) (some (.int .i64 1)) none none).run Try.prog W_ = .ok (.slice A7 zt.length c7) W_ := hcut0
            have HJ5 := Aside0.mk hr2
            have hbg : bx ≠ g := fun he => by have h1 := JX.out; rw [he, JG.out] at h1; simp at h1
            have hgb := hbg.symm
            have hl2 : decide (z < (zt.length : Int) + 1) = true := by simpa using hl1
            clear hr1 hr2 hcut0 hA7 hcc7 hl1
            go_wp2
            go_ret2
            exact ⟨rfl, ⟨_, _, _, blk_put JG.out 4 (.slice A7 zt.length c7) rfl, Kd.Q_set J2.out JG.out (by decide) 4 _, Kd.Q_set J3.out JG.out (by decide) 4 _, by rw [HRES.out]; exact Kd.Q_set HJ5.out JG.out (by decide) 4 _⟩, JD.out.setCell (p := ⟨g, 4, none⟩) HGB.out _, JF.out.trans (FrT.set w7 4 _)⟩
          · have hl1 : decide (z < (z2.length : Int)) = false := decide_eq_false hlen
            refine pure_ (i := 7) (N := some 62) (v := ?_) (a' := ?_) #[true, true, true, true, true, true, true, true] rfl rfl (by kernel_rfl) (fun _ _ _ h => h) (Or.inl ⟨by rfl, ?_⟩) ?_ ?_
            rotate_left
            · intro w'
              go_simp
              with_reducible rfl
            rotate_left
            · simp only [Act.put, lz1, lz2, lz3, i64_w, i32_w]
              rfl
            refine done_ (by kernel_rfl) ?_
            clear hHeld
            have HRES := Aside0.mk (show ghostPut cp mo gh hh = z2 by unfold ghostPut; rw [← HZ2.out, HZZ.out, if_neg hlen])
            clear hlen
            go_wp2
            go_ret2
            exact ⟨rfl, ⟨_, _, _, JG.out, J2.out, J3.out, by rw [HRES.out]; exact J4.out⟩, JD.out, JF.out⟩
theorem goMain_mono : ∀ (k : Nat) (m : List S120), LeO (goMain k m) (goMain (k + 1) m)
  | 0, _ => LeO.none _
  | _ + 1, [] => LeO.refl _
  | k + 1, x :: t => by
    show LeO (if x.f2 = 0 then some (t, x.f0, true) else goMain k (t ++ [⟨x.f0, x.f1, wrap64 (x.f2 - 1)⟩])) (if x.f2 = 0 then some (t, x.f0, true) else goMain (k + 1) (t ++ [⟨x.f0, x.f1, wrap64 (x.f2 - 1)⟩]))
    exact LeO.ite (LeO.refl _) (goMain_mono k _)
def goEvict (k : Nat) (cp mo : Int) (s m : List S120) (gh : List Int) : Option (List S120 × List S120 × List Int × ByteArray × Bool) :=
  if (s.length : Int) ≥ mo ∨ m.length = 0 then
    (goSmall k cp mo s m gh).bind fun r => if r.2.2.2.2 = true then some r else (goMain k r.2.1).bind fun q => some (r.1, q.1, r.2.2.1, q.2.1, q.2.2)
  else (goMain k m).bind fun q => some (s, q.1, gh, q.2.1, q.2.2)
theorem goEvict_mono (k : Nat) (cp mo : Int) (s m : List S120) (gh : List Int) : LeO (goEvict k cp mo s m gh) (goEvict (k + 1) cp mo s m gh) := by
  unfold goEvict
  exact LeO.ite (LeO.bind (goSmall_mono k cp mo s m gh) (fun _ => LeO.ite (LeO.refl _) (LeO.bind (goMain_mono k _) (fun _ => LeO.refl _)))) (LeO.bind (goMain_mono k _) (fun _ => LeO.refl _))
theorem goSmall_len (k : Nat) (cp mo : Int) : ∀ (s m : List S120) (gh : List Int) (r : List S120 × List S120 × List Int × ByteArray × Bool), goSmall k cp mo s m gh = some r → r.1.length + r.2.1.length ≤ s.length + m.length
  | [], m, gh, r, h => by
    simp only [goSmall, Option.some.injEq] at h
    subst h; simp
  | x :: t, m, gh, r, h => by
    unfold goSmall at h
    by_cases c : x.f2 > 1
    · rw [if_pos c] at h
      have := goSmall_len k cp mo t _ _ r h
      simp at this ⊢; omega
    · rw [if_neg c] at h
      obtain ⟨hh, _, h⟩ := Option.bind_eq_some_iff.mp h
      obtain rfl := Option.some.inj h
      simp
set_option maxHeartbeats 8000000 in
set_option maxRecDepth 100000 in
theorem evict.calls (k g base : Nat) (cp mo : Int) (s m : List S120) (gh : List Int) (s' m' : List S120) (gh' : List Int) (key : ByteArray) (ok : Bool) (w0 w : World) (hT : ThreeAt w g base cp mo s m gh) (HB : Below base w0 w) (hg : base ≤ g) (hbs : base ≤ w.heap.size) (hl : s.length + m.length < 1000000 ∧ gh.length < 900000) (h : goEvict k cp mo s m gh = some (s', m', gh', key, ok)) :
    Calls Try.prog 159 #[.pointer (some ⟨g, 0, none⟩)] w fun e w' => e = .returned (.tuple #[.string key, .bool ok]) ∧ ThreeAt w' g base cp mo s' m' gh' ∧ Below base w0 w' ∧ FrT g w w' := by
  have HT := Aside0.mk hT
  have HL := Aside0.mk hl
  have HB0 := Aside0.mk HB
  have HGB := Aside0.mk hg
  have HBS := Aside0.mk hbs
  obtain ⟨V2, V3, V4, hb, hq2, hq3, hq4⟩ := hT
  obtain ⟨A2, c2, rfl, _⟩ := Kd.Q_slice hq2
  obtain ⟨A3, c3, rfl, _⟩ := Kd.Q_slice hq3
  obtain ⟨⟨p0, p1, p2, p3, p4⟩, q0, q1, q2, q3, q4⟩ := cells5 hb
  clear hb hq2 hq3 hq4 HB hg hl hbs p0 p4 q0 q1 q2 q3 q4
  unfold goEvict at h
  by_cases c : (s.length : Int) ≥ mo ∨ m.length = 0
  · rw [if_pos c] at h
    obtain ⟨⟨s1, m1, gh1, key1, ok1⟩, h1, h2⟩ := Option.bind_eq_some_iff.mp h
    have HS := Aside0.mk h1
    have HML : Aside0 (m1.length < 1000000) := ⟨by have h1_ := goSmall_len k cp mo s m gh _ h1; have h2_ := HL.out.1; dsimp only at h1_; omega⟩
    dsimp only at h2
    clear h1 h
    by_cases c1 : mo ≤ (s.length : Int)
    · have d1 : decide (mo ≤ (s.length : Int)) = true := decide_eq_true c1
      clear c c1
      cases ok1 with
      | true =>
        rw [if_pos rfl] at h2
        simp only [Option.some.injEq, Prod.mk.injEq] at h2
        obtain ⟨rfl, rfl, rfl, rfl, rfl⟩ := h2
        go_enter Try.func159, Try.ntmps159
        go_wp2
        refine start_ (n := 18) (S := fun w' => w'.cell? ⟨g, 1, none⟩ = some (.int .i64 mo) ∧ w'.cell? ⟨g, 2, none⟩ = some (.slice A2 s.length c2) ∧ w'.cell? ⟨g, 3, none⟩ = some (.slice A3 m.length c3)) (ds := []) #[false, false, false, false, false, false, false, false, false, false, false, false, false, false, false, false, false, false] (by kernel_rfl) rfl rfl ⟨p1, p2, p3⟩ (fun hHeld => ?_)
        clear p1 p2 p3
        refine pure_ (i := 0) (N := some 6) (v := ?_) (a' := ?_) #[true, false, false, false, false, false, false, false, false, false, false, false, false, false, false, false, false, false] rfl rfl (by kernel_rfl) (fun _ _ _ h => h) (Or.inl ⟨by rfl, ?_⟩) ?_ ?_
        rotate_left
        · intro w'
          go_simp
          with_reducible rfl
        rotate_left
        · simp only [Act.put, lz1, lz2, lz3, i64_w, i32_w]
          rfl
        refine pure_ (i := 1) (N := some 7) (v := ?_) (a' := ?_) #[true, true, false, false, false, false, false, false, false, false, false, false, false, false, false, false, false, false] rfl rfl (by kernel_rfl) (fun _ _ _ h => h) (Or.inl ⟨by rfl, ?_⟩) ?_ ?_
        rotate_left
        · intro w'
          go_simp
          with_reducible rfl
        rotate_left
        · simp only [Act.put, lz1, lz2, lz3, i64_w, i32_w]
          rfl
        refine pure_ (i := 2) (N := some 8) (v := ?_) (a' := ?_) #[true, true, true, false, false, false, false, false, false, false, false, false, false, false, false, false, false, false] rfl rfl (by kernel_rfl) (fun _ _ _ h => h) (Or.inl ⟨by rfl, ?_⟩) ?_ ?_
        rotate_left
        · intro w'
          go_simp
          with_reducible rfl
        rotate_left
        · simp only [Act.put, lz1, lz2, lz3, i64_w, i32_w]
          rfl
        refine pure_ (i := 5) (N := some 11) (v := ?_) (a' := ?_) #[true, true, true, false, false, true, false, false, false, false, false, false, false, false, false, false, false, false] rfl rfl (by kernel_rfl) (fun _ _ _ h => h) (Or.inl ⟨by rfl, ?_⟩) ?_ ?_
        rotate_left
        · intro w'
          go_simp
          with_reducible rfl
        rotate_left
        · simp only [Act.put, lz1, lz2, lz3, i64_w, i32_w]
          rfl
        refine pure_ (i := 6) (N := some 12) (v := ?_) (a' := ?_) #[true, true, true, false, false, true, true, false, false, false, false, false, false, false, false, false, false, false] rfl rfl (by kernel_rfl) (fun _ _ _ h => h) (Or.inl ⟨by rfl, ?_⟩) ?_ ?_
        rotate_left
        · intro w'
          go_simp
          with_reducible rfl
        rotate_left
        · simp only [Act.put, lz1, lz2, lz3, i64_w, i32_w]
          rfl
        refine pure_ (i := 7) (N := some 13) (v := ?_) (a' := ?_) #[true, true, true, false, false, true, true, true, false, false, false, false, false, false, false, false, false, false] rfl rfl (by kernel_rfl) (fun _ _ _ h => h) (Or.inl ⟨by rfl, ?_⟩) ?_ ?_
        rotate_left
        · intro w'
          go_simp
          with_reducible rfl
        rotate_left
        · simp only [Act.put, lz1, lz2, lz3, i64_w, i32_w]
          rfl
        refine take_ (i := 3) (N := some 9) (v := ?_) (a' := ?_) #[true, true, true, true, false, true, true, true, false, false, false, false, false, false, false, false, false, false] rfl rfl (by kernel_rfl) (fun _ _ _ h => h) (Or.inl ⟨by rfl, ?_⟩) hHeld ?_ ?_
        rotate_left
        · rintro w' ⟨s0, s1, s2⟩
          go_simp
          with_reducible rfl
        rotate_left
        · simp only [Act.put, lz1, lz2, lz3, i64_w, i32_w]
          rfl
        refine take_ (i := 8) (N := some 14) (v := ?_) (a' := ?_) #[true, true, true, true, false, true, true, true, true, false, false, false, false, false, false, false, false, false] rfl rfl (by kernel_rfl) (fun _ _ _ h => h) (Or.inl ⟨by rfl, ?_⟩) hHeld ?_ ?_
        rotate_left
        · rintro w' ⟨s0, s1, s2⟩
          go_simp
          with_reducible rfl
        rotate_left
        · simp only [Act.put, lz1, lz2, lz3, i64_w, i32_w]
          rfl
        refine pure_ (i := 4) (N := some 10) (v := ?_) (a' := ?_) #[true, true, true, true, true, true, true, true, true, false, false, false, false, false, false, false, false, false] rfl rfl (by kernel_rfl) (fun _ _ _ h => h) (Or.inl ⟨by rfl, ?_⟩) ?_ ?_
        rotate_left
        · intro w'
          go_simp
          with_reducible rfl
        rotate_left
        · simp only [Act.put, lz1, lz2, lz3, i64_w, i32_w]
          rfl
        refine pure_ (i := 9) (N := some 15) (v := ?_) (a' := ?_) #[true, true, true, true, true, true, true, true, true, true, false, false, false, false, false, false, false, false] rfl rfl (by kernel_rfl) (fun _ _ _ h => h) (Or.inl ⟨by rfl, ?_⟩) ?_ ?_
        rotate_left
        · intro w'
          go_simp
          with_reducible rfl
        rotate_left
        · simp only [Act.put, lz1, lz2, lz3, i64_w, i32_w]
          rfl
        refine pure_ (i := 10) (N := some 16) (v := ?_) (a' := ?_) #[true, true, true, true, true, true, true, true, true, true, true, false, false, false, false, false, false, false] rfl rfl (by kernel_rfl) (fun _ _ _ h => h) (Or.inl ⟨by rfl, ?_⟩) ?_ ?_
        rotate_left
        · intro w'
          go_simp
          with_reducible rfl
        rotate_left
        · simp only [Act.put, lz1, lz2, lz3, i64_w, i32_w]
          rfl
        refine pure_ (i := 11) (N := some 17) (v := undef) (a' := ?_) #[true, true, true, true, true, true, true, true, true, true, true, true, false, false, false, false, false, false] rfl rfl (by kernel_rfl) (fun _ _ _ h => h) (Or.inr ⟨by rfl, rfl⟩) ?_ ?_
        rotate_left
        · simp only [Act.put, lz1, lz2, lz3, i64_w, i32_w]
          rfl
        refine pure_ (i := 12) (N := some 18) (v := undef) (a' := ?_) #[true, true, true, true, true, true, true, true, true, true, true, true, true, false, false, false, false, false] rfl rfl (by kernel_rfl) (fun _ _ _ h => h) (Or.inr ⟨by rfl, rfl⟩) ?_ ?_
        rotate_left
        · simp only [Act.put, lz1, lz2, lz3, i64_w, i32_w]
          rfl
        refine pure_ (i := 13) (N := some 19) (v := undef) (a' := ?_) #[true, true, true, true, true, true, true, true, true, true, true, true, true, true, false, false, false, false] rfl rfl (by kernel_rfl) (fun _ _ _ h => h) (Or.inr ⟨by rfl, rfl⟩) ?_ ?_
        rotate_left
        · simp only [Act.put, lz1, lz2, lz3, i64_w, i32_w]
          rfl
        refine pure_ (i := 14) (N := some 20) (v := undef) (a' := ?_) #[true, true, true, true, true, true, true, true, true, true, true, true, true, true, true, false, false, false] rfl rfl (by kernel_rfl) (fun _ _ _ h => h) (Or.inr ⟨by rfl, rfl⟩) ?_ ?_
        rotate_left
        · simp only [Act.put, lz1, lz2, lz3, i64_w, i32_w]
          rfl
        refine pure_ (i := 15) (N := some 21) (v := undef) (a' := ?_) #[true, true, true, true, true, true, true, true, true, true, true, true, true, true, true, true, false, false] rfl rfl (by kernel_rfl) (fun _ _ _ h => h) (Or.inr ⟨by rfl, rfl⟩) ?_ ?_
        rotate_left
        · simp only [Act.put, lz1, lz2, lz3, i64_w, i32_w]
          rfl
        refine pure_ (i := 16) (N := some 22) (v := undef) (a' := ?_) #[true, true, true, true, true, true, true, true, true, true, true, true, true, true, true, true, true, false] rfl rfl (by kernel_rfl) (fun _ _ _ h => h) (Or.inr ⟨by rfl, rfl⟩) ?_ ?_
        rotate_left
        · simp only [Act.put, lz1, lz2, lz3, i64_w, i32_w]
          rfl
        refine pure_ (i := 17) (N := some 23) (v := ?_) (a' := ?_) #[true, true, true, true, true, true, true, true, true, true, true, true, true, true, true, true, true, true] rfl rfl (by kernel_rfl) (fun _ _ _ h => h) (Or.inl ⟨by rfl, ?_⟩) ?_ ?_
        rotate_left
        · intro w'
          go_simp
          with_reducible rfl
        rotate_left
        · simp only [Act.put, lz1, lz2, lz3, i64_w, i32_w]
          rfl
        refine done_ (by kernel_rfl) ?_
        clear hHeld
        have HT1 : Aside0 (ThreeAt w.drew g base cp mo s m gh) := ⟨HT.out.below (Below.refl w.heap.size w).drew⟩
        have HB1 := Aside0.mk HB0.out.drew
        have HBS1 : Aside0 (base ≤ w.drew.heap.size) := ⟨HBS.out⟩
        have HF1 : Aside0 (FrT g w w.drew) := ⟨FrT.of_below (Below.refl w.heap.size w).drew⟩
        clear HT HB0 HBS
        go_wp2_with (first | (go_at_call 187; (with_reducible refine (evictSmall.calls k g base cp mo s m gh s1 m1 gh1 key1 true w0 _ HT1.out HB1.out HGB.out HBS1.out HL.out HS.out).mono ?_); rintro e w2 ⟨rfl, ht, hb, hf⟩; have HT2 := Aside0.mk ht; have HB2 := Aside0.mk hb; have HF2 := Aside0.mk hf; have HBS2 := Aside0.mk (Nat.le_trans HBS1.out hf.1); clear ht hb hf))
        go_ret2
        exact ⟨rfl, HT2.out, HB2.out, HF1.out.trans HF2.out⟩
      | false =>
        rw [if_neg (by simp)] at h2
        obtain ⟨⟨m2, key2, ok2⟩, h3, h4⟩ := Option.bind_eq_some_iff.mp h2
        simp only [Option.some.injEq, Prod.mk.injEq] at h4
        obtain ⟨rfl, rfl, rfl, rfl, rfl⟩ := h4
        have HM := Aside0.mk h3
        clear h3 h2
        go_enter Try.func159, Try.ntmps159
        go_wp2
        refine start_ (n := 18) (S := fun w' => w'.cell? ⟨g, 1, none⟩ = some (.int .i64 mo) ∧ w'.cell? ⟨g, 2, none⟩ = some (.slice A2 s.length c2) ∧ w'.cell? ⟨g, 3, none⟩ = some (.slice A3 m.length c3)) (ds := []) #[false, false, false, false, false, false, false, false, false, false, false, false, false, false, false, false, false, false] (by kernel_rfl) rfl rfl ⟨p1, p2, p3⟩ (fun hHeld => ?_)
        clear p1 p2 p3
        refine pure_ (i := 0) (N := some 6) (v := ?_) (a' := ?_) #[true, false, false, false, false, false, false, false, false, false, false, false, false, false, false, false, false, false] rfl rfl (by kernel_rfl) (fun _ _ _ h => h) (Or.inl ⟨by rfl, ?_⟩) ?_ ?_
        rotate_left
        · intro w'
          go_simp
          with_reducible rfl
        rotate_left
        · simp only [Act.put, lz1, lz2, lz3, i64_w, i32_w]
          rfl
        refine pure_ (i := 1) (N := some 7) (v := ?_) (a' := ?_) #[true, true, false, false, false, false, false, false, false, false, false, false, false, false, false, false, false, false] rfl rfl (by kernel_rfl) (fun _ _ _ h => h) (Or.inl ⟨by rfl, ?_⟩) ?_ ?_
        rotate_left
        · intro w'
          go_simp
          with_reducible rfl
        rotate_left
        · simp only [Act.put, lz1, lz2, lz3, i64_w, i32_w]
          rfl
        refine pure_ (i := 2) (N := some 8) (v := ?_) (a' := ?_) #[true, true, true, false, false, false, false, false, false, false, false, false, false, false, false, false, false, false] rfl rfl (by kernel_rfl) (fun _ _ _ h => h) (Or.inl ⟨by rfl, ?_⟩) ?_ ?_
        rotate_left
        · intro w'
          go_simp
          with_reducible rfl
        rotate_left
        · simp only [Act.put, lz1, lz2, lz3, i64_w, i32_w]
          rfl
        refine pure_ (i := 5) (N := some 11) (v := ?_) (a' := ?_) #[true, true, true, false, false, true, false, false, false, false, false, false, false, false, false, false, false, false] rfl rfl (by kernel_rfl) (fun _ _ _ h => h) (Or.inl ⟨by rfl, ?_⟩) ?_ ?_
        rotate_left
        · intro w'
          go_simp
          with_reducible rfl
        rotate_left
        · simp only [Act.put, lz1, lz2, lz3, i64_w, i32_w]
          rfl
        refine pure_ (i := 6) (N := some 12) (v := ?_) (a' := ?_) #[true, true, true, false, false, true, true, false, false, false, false, false, false, false, false, false, false, false] rfl rfl (by kernel_rfl) (fun _ _ _ h => h) (Or.inl ⟨by rfl, ?_⟩) ?_ ?_
        rotate_left
        · intro w'
          go_simp
          with_reducible rfl
        rotate_left
        · simp only [Act.put, lz1, lz2, lz3, i64_w, i32_w]
          rfl
        refine pure_ (i := 7) (N := some 13) (v := ?_) (a' := ?_) #[true, true, true, false, false, true, true, true, false, false, false, false, false, false, false, false, false, false] rfl rfl (by kernel_rfl) (fun _ _ _ h => h) (Or.inl ⟨by rfl, ?_⟩) ?_ ?_
        rotate_left
        · intro w'
          go_simp
          with_reducible rfl
        rotate_left
        · simp only [Act.put, lz1, lz2, lz3, i64_w, i32_w]
          rfl
        refine take_ (i := 3) (N := some 9) (v := ?_) (a' := ?_) #[true, true, true, true, false, true, true, true, false, false, false, false, false, false, false, false, false, false] rfl rfl (by kernel_rfl) (fun _ _ _ h => h) (Or.inl ⟨by rfl, ?_⟩) hHeld ?_ ?_
        rotate_left
        · rintro w' ⟨s0, s1, s2⟩
          go_simp
          with_reducible rfl
        rotate_left
        · simp only [Act.put, lz1, lz2, lz3, i64_w, i32_w]
          rfl
        refine take_ (i := 8) (N := some 14) (v := ?_) (a' := ?_) #[true, true, true, true, false, true, true, true, true, false, false, false, false, false, false, false, false, false] rfl rfl (by kernel_rfl) (fun _ _ _ h => h) (Or.inl ⟨by rfl, ?_⟩) hHeld ?_ ?_
        rotate_left
        · rintro w' ⟨s0, s1, s2⟩
          go_simp
          with_reducible rfl
        rotate_left
        · simp only [Act.put, lz1, lz2, lz3, i64_w, i32_w]
          rfl
        refine pure_ (i := 4) (N := some 10) (v := ?_) (a' := ?_) #[true, true, true, true, true, true, true, true, true, false, false, false, false, false, false, false, false, false] rfl rfl (by kernel_rfl) (fun _ _ _ h => h) (Or.inl ⟨by rfl, ?_⟩) ?_ ?_
        rotate_left
        · intro w'
          go_simp
          with_reducible rfl
        rotate_left
        · simp only [Act.put, lz1, lz2, lz3, i64_w, i32_w]
          rfl
        refine pure_ (i := 9) (N := some 15) (v := ?_) (a' := ?_) #[true, true, true, true, true, true, true, true, true, true, false, false, false, false, false, false, false, false] rfl rfl (by kernel_rfl) (fun _ _ _ h => h) (Or.inl ⟨by rfl, ?_⟩) ?_ ?_
        rotate_left
        · intro w'
          go_simp
          with_reducible rfl
        rotate_left
        · simp only [Act.put, lz1, lz2, lz3, i64_w, i32_w]
          rfl
        refine pure_ (i := 10) (N := some 16) (v := ?_) (a' := ?_) #[true, true, true, true, true, true, true, true, true, true, true, false, false, false, false, false, false, false] rfl rfl (by kernel_rfl) (fun _ _ _ h => h) (Or.inl ⟨by rfl, ?_⟩) ?_ ?_
        rotate_left
        · intro w'
          go_simp
          with_reducible rfl
        rotate_left
        · simp only [Act.put, lz1, lz2, lz3, i64_w, i32_w]
          rfl
        refine pure_ (i := 11) (N := some 17) (v := undef) (a' := ?_) #[true, true, true, true, true, true, true, true, true, true, true, true, false, false, false, false, false, false] rfl rfl (by kernel_rfl) (fun _ _ _ h => h) (Or.inr ⟨by rfl, rfl⟩) ?_ ?_
        rotate_left
        · simp only [Act.put, lz1, lz2, lz3, i64_w, i32_w]
          rfl
        refine pure_ (i := 12) (N := some 18) (v := undef) (a' := ?_) #[true, true, true, true, true, true, true, true, true, true, true, true, true, false, false, false, false, false] rfl rfl (by kernel_rfl) (fun _ _ _ h => h) (Or.inr ⟨by rfl, rfl⟩) ?_ ?_
        rotate_left
        · simp only [Act.put, lz1, lz2, lz3, i64_w, i32_w]
          rfl
        refine pure_ (i := 13) (N := some 19) (v := undef) (a' := ?_) #[true, true, true, true, true, true, true, true, true, true, true, true, true, true, false, false, false, false] rfl rfl (by kernel_rfl) (fun _ _ _ h => h) (Or.inr ⟨by rfl, rfl⟩) ?_ ?_
        rotate_left
        · simp only [Act.put, lz1, lz2, lz3, i64_w, i32_w]
          rfl
        refine pure_ (i := 14) (N := some 20) (v := undef) (a' := ?_) #[true, true, true, true, true, true, true, true, true, true, true, true, true, true, true, false, false, false] rfl rfl (by kernel_rfl) (fun _ _ _ h => h) (Or.inr ⟨by rfl, rfl⟩) ?_ ?_
        rotate_left
        · simp only [Act.put, lz1, lz2, lz3, i64_w, i32_w]
          rfl
        refine pure_ (i := 15) (N := some 21) (v := undef) (a' := ?_) #[true, true, true, true, true, true, true, true, true, true, true, true, true, true, true, true, false, false] rfl rfl (by kernel_rfl) (fun _ _ _ h => h) (Or.inr ⟨by rfl, rfl⟩) ?_ ?_
        rotate_left
        · simp only [Act.put, lz1, lz2, lz3, i64_w, i32_w]
          rfl
        refine pure_ (i := 16) (N := some 22) (v := undef) (a' := ?_) #[true, true, true, true, true, true, true, true, true, true, true, true, true, true, true, true, true, false] rfl rfl (by kernel_rfl) (fun _ _ _ h => h) (Or.inr ⟨by rfl, rfl⟩) ?_ ?_
        rotate_left
        · simp only [Act.put, lz1, lz2, lz3, i64_w, i32_w]
          rfl
        refine pure_ (i := 17) (N := some 23) (v := ?_) (a' := ?_) #[true, true, true, true, true, true, true, true, true, true, true, true, true, true, true, true, true, true] rfl rfl (by kernel_rfl) (fun _ _ _ h => h) (Or.inl ⟨by rfl, ?_⟩) ?_ ?_
        rotate_left
        · intro w'
          go_simp
          with_reducible rfl
        rotate_left
        · simp only [Act.put, lz1, lz2, lz3, i64_w, i32_w]
          rfl
        refine done_ (by kernel_rfl) ?_
        clear hHeld
        have HT1 : Aside0 (ThreeAt w.drew g base cp mo s m gh) := ⟨HT.out.below (Below.refl w.heap.size w).drew⟩
        have HB1 := Aside0.mk HB0.out.drew
        have HBS1 : Aside0 (base ≤ w.drew.heap.size) := ⟨HBS.out⟩
        have HF1 : Aside0 (FrT g w w.drew) := ⟨FrT.of_below (Below.refl w.heap.size w).drew⟩
        clear HT HB0 HBS
        go_wp2_with (first | (go_at_call 187; (with_reducible refine (evictSmall.calls k g base cp mo s m gh s1 m1 gh1 key1 false w0 _ HT1.out HB1.out HGB.out HBS1.out HL.out HS.out).mono ?_); rintro e w2 ⟨rfl, ht, hb, hf⟩; have HT2 := Aside0.mk ht; have HB2 := Aside0.mk hb; have HF2 := Aside0.mk hf; have HBS2 := Aside0.mk (Nat.le_trans HBS1.out hf.1); clear ht hb hf) | (go_at_call 188; (with_reducible refine (evictMain.calls k g base cp mo s1 m1 gh1 m2 key2 ok2 w0 _ HT2.out HB2.out HGB.out HBS2.out HML.out HM.out).mono ?_); rintro e w3 ⟨rfl, ht, hb, hf⟩; have HT3 := Aside0.mk ht; have HB3 := Aside0.mk hb; have HF3 := Aside0.mk hf; clear ht hb hf))
        go_ret2
        exact ⟨rfl, HT3.out, HB3.out, (HF1.out.trans HF2.out).trans HF3.out⟩
    · have d1 : decide (mo ≤ (s.length : Int)) = false := decide_eq_false c1
      have c2_ : m.length = 0 := by rcases c with c | c; exact absurd c c1; exact c
      have d2 : ((m.length : Int) == 0) = true := beq_iff_eq.mpr (by omega)
      clear c c1 c2_
      cases ok1 with
      | true =>
        rw [if_pos rfl] at h2
        simp only [Option.some.injEq, Prod.mk.injEq] at h2
        obtain ⟨rfl, rfl, rfl, rfl, rfl⟩ := h2
        go_enter Try.func159, Try.ntmps159
        go_wp2
        refine start_ (n := 18) (S := fun w' => w'.cell? ⟨g, 1, none⟩ = some (.int .i64 mo) ∧ w'.cell? ⟨g, 2, none⟩ = some (.slice A2 s.length c2) ∧ w'.cell? ⟨g, 3, none⟩ = some (.slice A3 m.length c3)) (ds := []) #[false, false, false, false, false, false, false, false, false, false, false, false, false, false, false, false, false, false] (by kernel_rfl) rfl rfl ⟨p1, p2, p3⟩ (fun hHeld => ?_)
        clear p1 p2 p3
        refine pure_ (i := 0) (N := some 6) (v := ?_) (a' := ?_) #[true, false, false, false, false, false, false, false, false, false, false, false, false, false, false, false, false, false] rfl rfl (by kernel_rfl) (fun _ _ _ h => h) (Or.inl ⟨by rfl, ?_⟩) ?_ ?_
        rotate_left
        · intro w'
          go_simp
          with_reducible rfl
        rotate_left
        · simp only [Act.put, lz1, lz2, lz3, i64_w, i32_w]
          rfl
        refine pure_ (i := 1) (N := some 7) (v := ?_) (a' := ?_) #[true, true, false, false, false, false, false, false, false, false, false, false, false, false, false, false, false, false] rfl rfl (by kernel_rfl) (fun _ _ _ h => h) (Or.inl ⟨by rfl, ?_⟩) ?_ ?_
        rotate_left
        · intro w'
          go_simp
          with_reducible rfl
        rotate_left
        · simp only [Act.put, lz1, lz2, lz3, i64_w, i32_w]
          rfl
        refine pure_ (i := 2) (N := some 8) (v := ?_) (a' := ?_) #[true, true, true, false, false, false, false, false, false, false, false, false, false, false, false, false, false, false] rfl rfl (by kernel_rfl) (fun _ _ _ h => h) (Or.inl ⟨by rfl, ?_⟩) ?_ ?_
        rotate_left
        · intro w'
          go_simp
          with_reducible rfl
        rotate_left
        · simp only [Act.put, lz1, lz2, lz3, i64_w, i32_w]
          rfl
        refine pure_ (i := 5) (N := some 11) (v := ?_) (a' := ?_) #[true, true, true, false, false, true, false, false, false, false, false, false, false, false, false, false, false, false] rfl rfl (by kernel_rfl) (fun _ _ _ h => h) (Or.inl ⟨by rfl, ?_⟩) ?_ ?_
        rotate_left
        · intro w'
          go_simp
          with_reducible rfl
        rotate_left
        · simp only [Act.put, lz1, lz2, lz3, i64_w, i32_w]
          rfl
        refine pure_ (i := 6) (N := some 12) (v := ?_) (a' := ?_) #[true, true, true, false, false, true, true, false, false, false, false, false, false, false, false, false, false, false] rfl rfl (by kernel_rfl) (fun _ _ _ h => h) (Or.inl ⟨by rfl, ?_⟩) ?_ ?_
        rotate_left
        · intro w'
          go_simp
          with_reducible rfl
        rotate_left
        · simp only [Act.put, lz1, lz2, lz3, i64_w, i32_w]
          rfl
        refine pure_ (i := 7) (N := some 13) (v := ?_) (a' := ?_) #[true, true, true, false, false, true, true, true, false, false, false, false, false, false, false, false, false, false] rfl rfl (by kernel_rfl) (fun _ _ _ h => h) (Or.inl ⟨by rfl, ?_⟩) ?_ ?_
        rotate_left
        · intro w'
          go_simp
          with_reducible rfl
        rotate_left
        · simp only [Act.put, lz1, lz2, lz3, i64_w, i32_w]
          rfl
        refine take_ (i := 3) (N := some 9) (v := ?_) (a' := ?_) #[true, true, true, true, false, true, true, true, false, false, false, false, false, false, false, false, false, false] rfl rfl (by kernel_rfl) (fun _ _ _ h => h) (Or.inl ⟨by rfl, ?_⟩) hHeld ?_ ?_
        rotate_left
        · rintro w' ⟨s0, s1, s2⟩
          go_simp
          with_reducible rfl
        rotate_left
        · simp only [Act.put, lz1, lz2, lz3, i64_w, i32_w]
          rfl
        refine take_ (i := 8) (N := some 14) (v := ?_) (a' := ?_) #[true, true, true, true, false, true, true, true, true, false, false, false, false, false, false, false, false, false] rfl rfl (by kernel_rfl) (fun _ _ _ h => h) (Or.inl ⟨by rfl, ?_⟩) hHeld ?_ ?_
        rotate_left
        · rintro w' ⟨s0, s1, s2⟩
          go_simp
          with_reducible rfl
        rotate_left
        · simp only [Act.put, lz1, lz2, lz3, i64_w, i32_w]
          rfl
        refine pure_ (i := 4) (N := some 10) (v := ?_) (a' := ?_) #[true, true, true, true, true, true, true, true, true, false, false, false, false, false, false, false, false, false] rfl rfl (by kernel_rfl) (fun _ _ _ h => h) (Or.inl ⟨by rfl, ?_⟩) ?_ ?_
        rotate_left
        · intro w'
          go_simp
          with_reducible rfl
        rotate_left
        · simp only [Act.put, lz1, lz2, lz3, i64_w, i32_w]
          rfl
        refine pure_ (i := 9) (N := some 15) (v := ?_) (a' := ?_) #[true, true, true, true, true, true, true, true, true, true, false, false, false, false, false, false, false, false] rfl rfl (by kernel_rfl) (fun _ _ _ h => h) (Or.inl ⟨by rfl, ?_⟩) ?_ ?_
        rotate_left
        · intro w'
          go_simp
          with_reducible rfl
        rotate_left
        · simp only [Act.put, lz1, lz2, lz3, i64_w, i32_w]
          rfl
        refine pure_ (i := 10) (N := some 16) (v := ?_) (a' := ?_) #[true, true, true, true, true, true, true, true, true, true, true, false, false, false, false, false, false, false] rfl rfl (by kernel_rfl) (fun _ _ _ h => h) (Or.inl ⟨by rfl, ?_⟩) ?_ ?_
        rotate_left
        · intro w'
          go_simp
          with_reducible rfl
        rotate_left
        · simp only [Act.put, lz1, lz2, lz3, i64_w, i32_w]
          rfl
        refine pure_ (i := 11) (N := some 17) (v := ?_) (a' := ?_) #[true, true, true, true, true, true, true, true, true, true, true, true, false, false, false, false, false, false] rfl rfl (by kernel_rfl) (fun _ _ _ h => h) (Or.inl ⟨by rfl, ?_⟩) ?_ ?_
        rotate_left
        · intro w'
          go_simp
          with_reducible rfl
        rotate_left
        · simp only [Act.put, lz1, lz2, lz3, i64_w, i32_w]
          rfl
        refine pure_ (i := 12) (N := some 18) (v := ?_) (a' := ?_) #[true, true, true, true, true, true, true, true, true, true, true, true, true, false, false, false, false, false] rfl rfl (by kernel_rfl) (fun _ _ _ h => h) (Or.inl ⟨by rfl, ?_⟩) ?_ ?_
        rotate_left
        · intro w'
          go_simp
          with_reducible rfl
        rotate_left
        · simp only [Act.put, lz1, lz2, lz3, i64_w, i32_w]
          rfl
        refine pure_ (i := 13) (N := some 19) (v := ?_) (a' := ?_) #[true, true, true, true, true, true, true, true, true, true, true, true, true, true, false, false, false, false] rfl rfl (by kernel_rfl) (fun _ _ _ h => h) (Or.inl ⟨by rfl, ?_⟩) ?_ ?_
        rotate_left
        · intro w'
          go_simp
          with_reducible rfl
        rotate_left
        · simp only [Act.put, lz1, lz2, lz3, i64_w, i32_w]
          rfl
        refine take_ (i := 14) (N := some 20) (v := ?_) (a' := ?_) #[true, true, true, true, true, true, true, true, true, true, true, true, true, true, true, false, false, false] rfl rfl (by kernel_rfl) (fun _ _ _ h => h) (Or.inl ⟨by rfl, ?_⟩) hHeld ?_ ?_
        rotate_left
        · rintro w' ⟨s0, s1, s2⟩
          go_simp
          with_reducible rfl
        rotate_left
        · simp only [Act.put, lz1, lz2, lz3, i64_w, i32_w]
          rfl
        refine pure_ (i := 15) (N := some 21) (v := ?_) (a' := ?_) #[true, true, true, true, true, true, true, true, true, true, true, true, true, true, true, true, false, false] rfl rfl (by kernel_rfl) (fun _ _ _ h => h) (Or.inl ⟨by rfl, ?_⟩) ?_ ?_
        rotate_left
        · intro w'
          go_simp
          with_reducible rfl
        rotate_left
        · simp only [Act.put, lz1, lz2, lz3, i64_w, i32_w]
          rfl
        refine pure_ (i := 16) (N := some 22) (v := ?_) (a' := ?_) #[true, true, true, true, true, true, true, true, true, true, true, true, true, true, true, true, true, false] rfl rfl (by kernel_rfl) (fun _ _ _ h => h) (Or.inl ⟨by rfl, ?_⟩) ?_ ?_
        rotate_left
        · intro w'
          go_simp
          with_reducible rfl
        rotate_left
        · simp only [Act.put, lz1, lz2, lz3, i64_w, i32_w]
          rfl
        refine pure_ (i := 17) (N := some 23) (v := ?_) (a' := ?_) #[true, true, true, true, true, true, true, true, true, true, true, true, true, true, true, true, true, true] rfl rfl (by kernel_rfl) (fun _ _ _ h => h) (Or.inl ⟨by rfl, ?_⟩) ?_ ?_
        rotate_left
        · intro w'
          go_simp
          with_reducible rfl
        rotate_left
        · simp only [Act.put, lz1, lz2, lz3, i64_w, i32_w]
          rfl
        refine done_ (by kernel_rfl) ?_
        clear hHeld
        have HT1 : Aside0 (ThreeAt w.drew g base cp mo s m gh) := ⟨HT.out.below (Below.refl w.heap.size w).drew⟩
        have HB1 := Aside0.mk HB0.out.drew
        have HBS1 : Aside0 (base ≤ w.drew.heap.size) := ⟨HBS.out⟩
        have HF1 : Aside0 (FrT g w w.drew) := ⟨FrT.of_below (Below.refl w.heap.size w).drew⟩
        clear HT HB0 HBS
        go_wp2_with (first | (go_at_call 187; (with_reducible refine (evictSmall.calls k g base cp mo s m gh s1 m1 gh1 key1 true w0 _ HT1.out HB1.out HGB.out HBS1.out HL.out HS.out).mono ?_); rintro e w2 ⟨rfl, ht, hb, hf⟩; have HT2 := Aside0.mk ht; have HB2 := Aside0.mk hb; have HF2 := Aside0.mk hf; have HBS2 := Aside0.mk (Nat.le_trans HBS1.out hf.1); clear ht hb hf))
        go_ret2
        exact ⟨rfl, HT2.out, HB2.out, HF1.out.trans HF2.out⟩
      | false =>
        rw [if_neg (by simp)] at h2
        obtain ⟨⟨m2, key2, ok2⟩, h3, h4⟩ := Option.bind_eq_some_iff.mp h2
        simp only [Option.some.injEq, Prod.mk.injEq] at h4
        obtain ⟨rfl, rfl, rfl, rfl, rfl⟩ := h4
        have HM := Aside0.mk h3
        clear h3 h2
        go_enter Try.func159, Try.ntmps159
        go_wp2
        refine start_ (n := 18) (S := fun w' => w'.cell? ⟨g, 1, none⟩ = some (.int .i64 mo) ∧ w'.cell? ⟨g, 2, none⟩ = some (.slice A2 s.length c2) ∧ w'.cell? ⟨g, 3, none⟩ = some (.slice A3 m.length c3)) (ds := []) #[false, false, false, false, false, false, false, false, false, false, false, false, false, false, false, false, false, false] (by kernel_rfl) rfl rfl ⟨p1, p2, p3⟩ (fun hHeld => ?_)
        clear p1 p2 p3
        refine pure_ (i := 0) (N := some 6) (v := ?_) (a' := ?_) #[true, false, false, false, false, false, false, false, false, false, false, false, false, false, false, false, false, false] rfl rfl (by kernel_rfl) (fun _ _ _ h => h) (Or.inl ⟨by rfl, ?_⟩) ?_ ?_
        rotate_left
        · intro w'
          go_simp
          with_reducible rfl
        rotate_left
        · simp only [Act.put, lz1, lz2, lz3, i64_w, i32_w]
          rfl
        refine pure_ (i := 1) (N := some 7) (v := ?_) (a' := ?_) #[true, true, false, false, false, false, false, false, false, false, false, false, false, false, false, false, false, false] rfl rfl (by kernel_rfl) (fun _ _ _ h => h) (Or.inl ⟨by rfl, ?_⟩) ?_ ?_
        rotate_left
        · intro w'
          go_simp
          with_reducible rfl
        rotate_left
        · simp only [Act.put, lz1, lz2, lz3, i64_w, i32_w]
          rfl
        refine pure_ (i := 2) (N := some 8) (v := ?_) (a' := ?_) #[true, true, true, false, false, false, false, false, false, false, false, false, false, false, false, false, false, false] rfl rfl (by kernel_rfl) (fun _ _ _ h => h) (Or.inl ⟨by rfl, ?_⟩) ?_ ?_
        rotate_left
        · intro w'
          go_simp
          with_reducible rfl
        rotate_left
        · simp only [Act.put, lz1, lz2, lz3, i64_w, i32_w]
          rfl
        refine pure_ (i := 5) (N := some 11) (v := ?_) (a' := ?_) #[true, true, true, false, false, true, false, false, false, false, false, false, false, false, false, false, false, false] rfl rfl (by kernel_rfl) (fun _ _ _ h => h) (Or.inl ⟨by rfl, ?_⟩) ?_ ?_
        rotate_left
        · intro w'
          go_simp
          with_reducible rfl
        rotate_left
        · simp only [Act.put, lz1, lz2, lz3, i64_w, i32_w]
          rfl
        refine pure_ (i := 6) (N := some 12) (v := ?_) (a' := ?_) #[true, true, true, false, false, true, true, false, false, false, false, false, false, false, false, false, false, false] rfl rfl (by kernel_rfl) (fun _ _ _ h => h) (Or.inl ⟨by rfl, ?_⟩) ?_ ?_
        rotate_left
        · intro w'
          go_simp
          with_reducible rfl
        rotate_left
        · simp only [Act.put, lz1, lz2, lz3, i64_w, i32_w]
          rfl
        refine pure_ (i := 7) (N := some 13) (v := ?_) (a' := ?_) #[true, true, true, false, false, true, true, true, false, false, false, false, false, false, false, false, false, false] rfl rfl (by kernel_rfl) (fun _ _ _ h => h) (Or.inl ⟨by rfl, ?_⟩) ?_ ?_
        rotate_left
        · intro w'
          go_simp
          with_reducible rfl
        rotate_left
        · simp only [Act.put, lz1, lz2, lz3, i64_w, i32_w]
          rfl
        refine take_ (i := 3) (N := some 9) (v := ?_) (a' := ?_) #[true, true, true, true, false, true, true, true, false, false, false, false, false, false, false, false, false, false] rfl rfl (by kernel_rfl) (fun _ _ _ h => h) (Or.inl ⟨by rfl, ?_⟩) hHeld ?_ ?_
        rotate_left
        · rintro w' ⟨s0, s1, s2⟩
          go_simp
          with_reducible rfl
        rotate_left
        · simp only [Act.put, lz1, lz2, lz3, i64_w, i32_w]
          rfl
        refine take_ (i := 8) (N := some 14) (v := ?_) (a' := ?_) #[true, true, true, true, false, true, true, true, true, false, false, false, false, false, false, false, false, false] rfl rfl (by kernel_rfl) (fun _ _ _ h => h) (Or.inl ⟨by rfl, ?_⟩) hHeld ?_ ?_
        rotate_left
        · rintro w' ⟨s0, s1, s2⟩
          go_simp
          with_reducible rfl
        rotate_left
        · simp only [Act.put, lz1, lz2, lz3, i64_w, i32_w]
          rfl
        refine pure_ (i := 4) (N := some 10) (v := ?_) (a' := ?_) #[true, true, true, true, true, true, true, true, true, false, false, false, false, false, false, false, false, false] rfl rfl (by kernel_rfl) (fun _ _ _ h => h) (Or.inl ⟨by rfl, ?_⟩) ?_ ?_
        rotate_left
        · intro w'
          go_simp
          with_reducible rfl
        rotate_left
        · simp only [Act.put, lz1, lz2, lz3, i64_w, i32_w]
          rfl
        refine pure_ (i := 9) (N := some 15) (v := ?_) (a' := ?_) #[true, true, true, true, true, true, true, true, true, true, false, false, false, false, false, false, false, false] rfl rfl (by kernel_rfl) (fun _ _ _ h => h) (Or.inl ⟨by rfl, ?_⟩) ?_ ?_
        rotate_left
        · intro w'
          go_simp
          with_reducible rfl
        rotate_left
        · simp only [Act.put, lz1, lz2, lz3, i64_w, i32_w]
          rfl
        refine pure_ (i := 10) (N := some 16) (v := ?_) (a' := ?_) #[true, true, true, true, true, true, true, true, true, true, true, false, false, false, false, false, false, false] rfl rfl (by kernel_rfl) (fun _ _ _ h => h) (Or.inl ⟨by rfl, ?_⟩) ?_ ?_
        rotate_left
        · intro w'
          go_simp
          with_reducible rfl
        rotate_left
        · simp only [Act.put, lz1, lz2, lz3, i64_w, i32_w]
          rfl
        refine pure_ (i := 11) (N := some 17) (v := ?_) (a' := ?_) #[true, true, true, true, true, true, true, true, true, true, true, true, false, false, false, false, false, false] rfl rfl (by kernel_rfl) (fun _ _ _ h => h) (Or.inl ⟨by rfl, ?_⟩) ?_ ?_
        rotate_left
        · intro w'
          go_simp
          with_reducible rfl
        rotate_left
        · simp only [Act.put, lz1, lz2, lz3, i64_w, i32_w]
          rfl
        refine pure_ (i := 12) (N := some 18) (v := ?_) (a' := ?_) #[true, true, true, true, true, true, true, true, true, true, true, true, true, false, false, false, false, false] rfl rfl (by kernel_rfl) (fun _ _ _ h => h) (Or.inl ⟨by rfl, ?_⟩) ?_ ?_
        rotate_left
        · intro w'
          go_simp
          with_reducible rfl
        rotate_left
        · simp only [Act.put, lz1, lz2, lz3, i64_w, i32_w]
          rfl
        refine pure_ (i := 13) (N := some 19) (v := ?_) (a' := ?_) #[true, true, true, true, true, true, true, true, true, true, true, true, true, true, false, false, false, false] rfl rfl (by kernel_rfl) (fun _ _ _ h => h) (Or.inl ⟨by rfl, ?_⟩) ?_ ?_
        rotate_left
        · intro w'
          go_simp
          with_reducible rfl
        rotate_left
        · simp only [Act.put, lz1, lz2, lz3, i64_w, i32_w]
          rfl
        refine take_ (i := 14) (N := some 20) (v := ?_) (a' := ?_) #[true, true, true, true, true, true, true, true, true, true, true, true, true, true, true, false, false, false] rfl rfl (by kernel_rfl) (fun _ _ _ h => h) (Or.inl ⟨by rfl, ?_⟩) hHeld ?_ ?_
        rotate_left
        · rintro w' ⟨s0, s1, s2⟩
          go_simp
          with_reducible rfl
        rotate_left
        · simp only [Act.put, lz1, lz2, lz3, i64_w, i32_w]
          rfl
        refine pure_ (i := 15) (N := some 21) (v := ?_) (a' := ?_) #[true, true, true, true, true, true, true, true, true, true, true, true, true, true, true, true, false, false] rfl rfl (by kernel_rfl) (fun _ _ _ h => h) (Or.inl ⟨by rfl, ?_⟩) ?_ ?_
        rotate_left
        · intro w'
          go_simp
          with_reducible rfl
        rotate_left
        · simp only [Act.put, lz1, lz2, lz3, i64_w, i32_w]
          rfl
        refine pure_ (i := 16) (N := some 22) (v := ?_) (a' := ?_) #[true, true, true, true, true, true, true, true, true, true, true, true, true, true, true, true, true, false] rfl rfl (by kernel_rfl) (fun _ _ _ h => h) (Or.inl ⟨by rfl, ?_⟩) ?_ ?_
        rotate_left
        · intro w'
          go_simp
          with_reducible rfl
        rotate_left
        · simp only [Act.put, lz1, lz2, lz3, i64_w, i32_w]
          rfl
        refine pure_ (i := 17) (N := some 23) (v := ?_) (a' := ?_) #[true, true, true, true, true, true, true, true, true, true, true, true, true, true, true, true, true, true] rfl rfl (by kernel_rfl) (fun _ _ _ h => h) (Or.inl ⟨by rfl, ?_⟩) ?_ ?_
        rotate_left
        · intro w'
          go_simp
          with_reducible rfl
        rotate_left
        · simp only [Act.put, lz1, lz2, lz3, i64_w, i32_w]
          rfl
        refine done_ (by kernel_rfl) ?_
        clear hHeld
        have HT1 : Aside0 (ThreeAt w.drew g base cp mo s m gh) := ⟨HT.out.below (Below.refl w.heap.size w).drew⟩
        have HB1 := Aside0.mk HB0.out.drew
        have HBS1 : Aside0 (base ≤ w.drew.heap.size) := ⟨HBS.out⟩
        have HF1 : Aside0 (FrT g w w.drew) := ⟨FrT.of_below (Below.refl w.heap.size w).drew⟩
        clear HT HB0 HBS
        go_wp2_with (first | (go_at_call 187; (with_reducible refine (evictSmall.calls k g base cp mo s m gh s1 m1 gh1 key1 false w0 _ HT1.out HB1.out HGB.out HBS1.out HL.out HS.out).mono ?_); rintro e w2 ⟨rfl, ht, hb, hf⟩; have HT2 := Aside0.mk ht; have HB2 := Aside0.mk hb; have HF2 := Aside0.mk hf; have HBS2 := Aside0.mk (Nat.le_trans HBS1.out hf.1); clear ht hb hf) | (go_at_call 188; (with_reducible refine (evictMain.calls k g base cp mo s1 m1 gh1 m2 key2 ok2 w0 _ HT2.out HB2.out HGB.out HBS2.out HML.out HM.out).mono ?_); rintro e w3 ⟨rfl, ht, hb, hf⟩; have HT3 := Aside0.mk ht; have HB3 := Aside0.mk hb; have HF3 := Aside0.mk hf; clear ht hb hf))
        go_ret2
        exact ⟨rfl, HT3.out, HB3.out, (HF1.out.trans HF2.out).trans HF3.out⟩
  · rw [if_neg c] at h
    obtain ⟨⟨m2, key2, ok2⟩, h3, h4⟩ := Option.bind_eq_some_iff.mp h
    simp only [Option.some.injEq, Prod.mk.injEq] at h4
    obtain ⟨rfl, rfl, rfl, rfl, rfl⟩ := h4
    have HM := Aside0.mk h3
    have d1 : decide (mo ≤ (s.length : Int)) = false := decide_eq_false (fun h => c (.inl h))
    have d2 : ((m.length : Int) == 0) = false := beq_eq_false_iff_ne.mpr (fun h => c (.inr (by omega)))
    clear h3 h c
    go_enter Try.func159, Try.ntmps159
    go_wp2
    refine start_ (n := 18) (S := fun w' => w'.cell? ⟨g, 1, none⟩ = some (.int .i64 mo) ∧ w'.cell? ⟨g, 2, none⟩ = some (.slice A2 s.length c2) ∧ w'.cell? ⟨g, 3, none⟩ = some (.slice A3 m.length c3)) (ds := []) #[false, false, false, false, false, false, false, false, false, false, false, false, false, false, false, false, false, false] (by kernel_rfl) rfl rfl ⟨p1, p2, p3⟩ (fun hHeld => ?_)
    clear p1 p2 p3
    refine pure_ (i := 0) (N := some 6) (v := ?_) (a' := ?_) #[true, false, false, false, false, false, false, false, false, false, false, false, false, false, false, false, false, false] rfl rfl (by kernel_rfl) (fun _ _ _ h => h) (Or.inl ⟨by rfl, ?_⟩) ?_ ?_
    rotate_left
    · intro w'
      go_simp
      with_reducible rfl
    rotate_left
    · simp only [Act.put, lz1, lz2, lz3, i64_w, i32_w]
      rfl
    refine pure_ (i := 1) (N := some 7) (v := ?_) (a' := ?_) #[true, true, false, false, false, false, false, false, false, false, false, false, false, false, false, false, false, false] rfl rfl (by kernel_rfl) (fun _ _ _ h => h) (Or.inl ⟨by rfl, ?_⟩) ?_ ?_
    rotate_left
    · intro w'
      go_simp
      with_reducible rfl
    rotate_left
    · simp only [Act.put, lz1, lz2, lz3, i64_w, i32_w]
      rfl
    refine pure_ (i := 2) (N := some 8) (v := ?_) (a' := ?_) #[true, true, true, false, false, false, false, false, false, false, false, false, false, false, false, false, false, false] rfl rfl (by kernel_rfl) (fun _ _ _ h => h) (Or.inl ⟨by rfl, ?_⟩) ?_ ?_
    rotate_left
    · intro w'
      go_simp
      with_reducible rfl
    rotate_left
    · simp only [Act.put, lz1, lz2, lz3, i64_w, i32_w]
      rfl
    refine pure_ (i := 5) (N := some 11) (v := ?_) (a' := ?_) #[true, true, true, false, false, true, false, false, false, false, false, false, false, false, false, false, false, false] rfl rfl (by kernel_rfl) (fun _ _ _ h => h) (Or.inl ⟨by rfl, ?_⟩) ?_ ?_
    rotate_left
    · intro w'
      go_simp
      with_reducible rfl
    rotate_left
    · simp only [Act.put, lz1, lz2, lz3, i64_w, i32_w]
      rfl
    refine pure_ (i := 6) (N := some 12) (v := ?_) (a' := ?_) #[true, true, true, false, false, true, true, false, false, false, false, false, false, false, false, false, false, false] rfl rfl (by kernel_rfl) (fun _ _ _ h => h) (Or.inl ⟨by rfl, ?_⟩) ?_ ?_
    rotate_left
    · intro w'
      go_simp
      with_reducible rfl
    rotate_left
    · simp only [Act.put, lz1, lz2, lz3, i64_w, i32_w]
      rfl
    refine pure_ (i := 7) (N := some 13) (v := ?_) (a' := ?_) #[true, true, true, false, false, true, true, true, false, false, false, false, false, false, false, false, false, false] rfl rfl (by kernel_rfl) (fun _ _ _ h => h) (Or.inl ⟨by rfl, ?_⟩) ?_ ?_
    rotate_left
    · intro w'
      go_simp
      with_reducible rfl
    rotate_left
    · simp only [Act.put, lz1, lz2, lz3, i64_w, i32_w]
      rfl
    refine take_ (i := 3) (N := some 9) (v := ?_) (a' := ?_) #[true, true, true, true, false, true, true, true, false, false, false, false, false, false, false, false, false, false] rfl rfl (by kernel_rfl) (fun _ _ _ h => h) (Or.inl ⟨by rfl, ?_⟩) hHeld ?_ ?_
    rotate_left
    · rintro w' ⟨s0, s1, s2⟩
      go_simp
      with_reducible rfl
    rotate_left
    · simp only [Act.put, lz1, lz2, lz3, i64_w, i32_w]
      rfl
    refine take_ (i := 8) (N := some 14) (v := ?_) (a' := ?_) #[true, true, true, true, false, true, true, true, true, false, false, false, false, false, false, false, false, false] rfl rfl (by kernel_rfl) (fun _ _ _ h => h) (Or.inl ⟨by rfl, ?_⟩) hHeld ?_ ?_
    rotate_left
    · rintro w' ⟨s0, s1, s2⟩
      go_simp
      with_reducible rfl
    rotate_left
    · simp only [Act.put, lz1, lz2, lz3, i64_w, i32_w]
      rfl
    refine pure_ (i := 4) (N := some 10) (v := ?_) (a' := ?_) #[true, true, true, true, true, true, true, true, true, false, false, false, false, false, false, false, false, false] rfl rfl (by kernel_rfl) (fun _ _ _ h => h) (Or.inl ⟨by rfl, ?_⟩) ?_ ?_
    rotate_left
    · intro w'
      go_simp
      with_reducible rfl
    rotate_left
    · simp only [Act.put, lz1, lz2, lz3, i64_w, i32_w]
      rfl
    refine pure_ (i := 9) (N := some 15) (v := ?_) (a' := ?_) #[true, true, true, true, true, true, true, true, true, true, false, false, false, false, false, false, false, false] rfl rfl (by kernel_rfl) (fun _ _ _ h => h) (Or.inl ⟨by rfl, ?_⟩) ?_ ?_
    rotate_left
    · intro w'
      go_simp
      with_reducible rfl
    rotate_left
    · simp only [Act.put, lz1, lz2, lz3, i64_w, i32_w]
      rfl
    refine pure_ (i := 10) (N := some 16) (v := ?_) (a' := ?_) #[true, true, true, true, true, true, true, true, true, true, true, false, false, false, false, false, false, false] rfl rfl (by kernel_rfl) (fun _ _ _ h => h) (Or.inl ⟨by rfl, ?_⟩) ?_ ?_
    rotate_left
    · intro w'
      go_simp
      with_reducible rfl
    rotate_left
    · simp only [Act.put, lz1, lz2, lz3, i64_w, i32_w]
      rfl
    refine pure_ (i := 11) (N := some 17) (v := ?_) (a' := ?_) #[true, true, true, true, true, true, true, true, true, true, true, true, false, false, false, false, false, false] rfl rfl (by kernel_rfl) (fun _ _ _ h => h) (Or.inl ⟨by rfl, ?_⟩) ?_ ?_
    rotate_left
    · intro w'
      go_simp
      with_reducible rfl
    rotate_left
    · simp only [Act.put, lz1, lz2, lz3, i64_w, i32_w]
      rfl
    refine pure_ (i := 12) (N := some 18) (v := ?_) (a' := ?_) #[true, true, true, true, true, true, true, true, true, true, true, true, true, false, false, false, false, false] rfl rfl (by kernel_rfl) (fun _ _ _ h => h) (Or.inl ⟨by rfl, ?_⟩) ?_ ?_
    rotate_left
    · intro w'
      go_simp
      with_reducible rfl
    rotate_left
    · simp only [Act.put, lz1, lz2, lz3, i64_w, i32_w]
      rfl
    refine pure_ (i := 13) (N := some 19) (v := ?_) (a' := ?_) #[true, true, true, true, true, true, true, true, true, true, true, true, true, true, false, false, false, false] rfl rfl (by kernel_rfl) (fun _ _ _ h => h) (Or.inl ⟨by rfl, ?_⟩) ?_ ?_
    rotate_left
    · intro w'
      go_simp
      with_reducible rfl
    rotate_left
    · simp only [Act.put, lz1, lz2, lz3, i64_w, i32_w]
      rfl
    refine take_ (i := 14) (N := some 20) (v := ?_) (a' := ?_) #[true, true, true, true, true, true, true, true, true, true, true, true, true, true, true, false, false, false] rfl rfl (by kernel_rfl) (fun _ _ _ h => h) (Or.inl ⟨by rfl, ?_⟩) hHeld ?_ ?_
    rotate_left
    · rintro w' ⟨s0, s1, s2⟩
      go_simp
      with_reducible rfl
    rotate_left
    · simp only [Act.put, lz1, lz2, lz3, i64_w, i32_w]
      rfl
    refine pure_ (i := 15) (N := some 21) (v := ?_) (a' := ?_) #[true, true, true, true, true, true, true, true, true, true, true, true, true, true, true, true, false, false] rfl rfl (by kernel_rfl) (fun _ _ _ h => h) (Or.inl ⟨by rfl, ?_⟩) ?_ ?_
    rotate_left
    · intro w'
      go_simp
      with_reducible rfl
    rotate_left
    · simp only [Act.put, lz1, lz2, lz3, i64_w, i32_w]
      rfl
    refine pure_ (i := 16) (N := some 22) (v := ?_) (a' := ?_) #[true, true, true, true, true, true, true, true, true, true, true, true, true, true, true, true, true, false] rfl rfl (by kernel_rfl) (fun _ _ _ h => h) (Or.inl ⟨by rfl, ?_⟩) ?_ ?_
    rotate_left
    · intro w'
      go_simp
      with_reducible rfl
    rotate_left
    · simp only [Act.put, lz1, lz2, lz3, i64_w, i32_w]
      rfl
    refine pure_ (i := 17) (N := some 23) (v := ?_) (a' := ?_) #[true, true, true, true, true, true, true, true, true, true, true, true, true, true, true, true, true, true] rfl rfl (by kernel_rfl) (fun _ _ _ h => h) (Or.inl ⟨by rfl, ?_⟩) ?_ ?_
    rotate_left
    · intro w'
      go_simp
      with_reducible rfl
    rotate_left
    · simp only [Act.put, lz1, lz2, lz3, i64_w, i32_w]
      rfl
    refine done_ (by kernel_rfl) ?_
    clear hHeld
    have HT1 : Aside0 (ThreeAt w.drew g base cp mo s m gh) := ⟨HT.out.below (Below.refl w.heap.size w).drew⟩
    have HB1 := Aside0.mk HB0.out.drew
    have HBS1 : Aside0 (base ≤ w.drew.heap.size) := ⟨HBS.out⟩
    have HF1 : Aside0 (FrT g w w.drew) := ⟨FrT.of_below (Below.refl w.heap.size w).drew⟩
    clear HT HB0 HBS
    go_wp2_with (first | (go_at_call 188; (with_reducible refine (evictMain.calls k g base cp mo s m gh m2 key2 ok2 w0 _ HT1.out HB1.out HGB.out HBS1.out (by have h2_ := HL.out.1; omega) HM.out).mono ?_); rintro e w3 ⟨rfl, ht, hb, hf⟩; have HT3 := Aside0.mk ht; have HB3 := Aside0.mk hb; have HF3 := Aside0.mk hf; clear ht hb hf))
    go_ret2
    exact ⟨rfl, HT3.out, HB3.out, HF1.out.trans HF3.out⟩
end Go.Proofs.Ytkaahabgbngodaa.Core
end
