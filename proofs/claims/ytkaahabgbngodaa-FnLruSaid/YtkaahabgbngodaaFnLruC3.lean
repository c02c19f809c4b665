/- Contracts of the program's functions as Lean functions, for FnLru, part 3 (printed by wip/mkprint.py over the kit's print.py; what that refuses is written by hand in wip/manual). -/
import Derived.Test.YtkaahabgbngodaaFnLruC1
import Derived.Test.YtkaahabgbngodaaFnLruC2
import Derived.Deep.RegionLaw

namespace Go.Proofs.Ytkaahabgbngodaa.Core
open Go.RowKit Go.Proofs.YtkaahabgbngodaaW.PrintWords Go.Proofs.YtkaahabgbngodaaW.PrintLast Go.Proofs.YtkaahabgbngodaaW.PrintMore
attribute [local go_sem] max2_int min2_int max_two min_two max_three min_three max_four min_four   -- for this text's walks alone
set_option linter.unusedVariables false
set_option linter.unusedSimpArgs false

/-! ### spec_Distinct: function 41 -/
def spec_Distinct.l0 : Nat → List ByteArray → List ByteArray → Int → Int → Option (List ByteArray)
  | 0, _, _, _, _ => none
  | k + 1, x3, x7, x8, x9 => if x9 < x8 then (if 0 ≤ x9 then (if x9 < (x7.length : Int) then ((spec_l12Has.f k x3 (rdOf ByteArray.empty x7 x9)).bind fun t688 => (if t688 = true then (spec_Distinct.l0 k x3 x7 x8 (wrap64 (x9 + 1))) else (if x3.length < 8796093022208 then (spec_Distinct.l0 k (x3 ++ [rdOf ByteArray.empty x7 x9]) x7 x8 (wrap64 (x9 + 1))) else (none)))) else (none)) else (none)) else (some x3)
def spec_Distinct.f (k : Nat) (l0 : List ByteArray) : Option (List ByteArray) := spec_Distinct.l0 k (([] : List ByteArray)) l0 (l0.length : Int) 0
theorem spec_Distinct.mono_l : ∀ k, (∀ y0 y1 y2 y3, LeO (spec_Distinct.l0 k y0 y1 y2 y3) (spec_Distinct.l0 (k + 1) y0 y1 y2 y3))
  | 0 => fun _ _ _ _ r h => by simp [spec_Distinct.l0] at h
  | k + 1 => by
    have ih0 := spec_Distinct.mono_l k
    · intro y0 y1 y2 y3
      unfold spec_Distinct.l0
      repeat' first
      | (with_reducible exact ih0 _ _ _ _)
      | (with_reducible exact spec_l12Has.mono _ _ _)
      | (with_reducible exact LeO.refl _)
      | (with_reducible exact LeO.none _)
      | (with_reducible refine LeO.ite ?_ ?_)
      | (with_reducible refine LeO.bind ?_ (fun _ => ?_))
      | exact ih0 _ _ _ _
      | exact spec_l12Has.mono _ _ _
      | exact LeO.none _
      | refine LeO.ite ?_ ?_
      | refine LeO.bind ?_ (fun _ => ?_)
theorem spec_Distinct.mono : ∀ a0 k, LeO (spec_Distinct.f k a0) (spec_Distinct.f (k + 1) a0) := by
  intro a0 k
  have ih0 := spec_Distinct.mono_l k
  unfold spec_Distinct.f
  repeat' first
      | (with_reducible exact ih0 _ _ _ _)
      | (with_reducible exact spec_l12Has.mono _ _ _)
      | (with_reducible exact LeO.refl _)
      | (with_reducible exact LeO.none _)
      | (with_reducible refine LeO.ite ?_ ?_)
      | (with_reducible refine LeO.bind ?_ (fun _ => ?_))
      | exact ih0 _ _ _ _
      | exact spec_l12Has.mono _ _ _
      | exact LeO.none _
      | refine LeO.ite ?_ ?_
      | refine LeO.bind ?_ (fun _ => ?_)
set_option maxHeartbeats 8000000 in
set_option maxRecDepth 100000 in
theorem spec_Distinct.calls (k : Nat) (A0 : Option Addr) (c0 : Nat) (l0 : List ByteArray) (r : List ByteArray) (w : World) (hr0 : Kd.C Kd.string w A0 l0.length l0) (hc0 : l0.length ≤ c0) (h : spec_Distinct.f k l0 = some r) :
    Calls Try.prog 41 #[.slice A0 l0.length c0] w fun e w' => ∃ v0_ : Value, e = .returned (v0_) ∧ Kd.R Kd.string 9 w' w.heap.size (fun _ => True) v0_ r ∧ Below w.heap.size w w' := by
  have HR0 := Aside0.mk hr0
  have HC0 := Aside0.mk hc0
  clear hr0 hc0
  have HB := Aside0.mk (Below.refl w.heap.size w)
  have H : (spec_Distinct.l0 k (([] : List ByteArray)) l0 (l0.length : Int) 0) = some r := h
  clear h
  obtain ⟨y684, hy684⟩ : ∃ y_ : List ByteArray, y_ = (([] : List ByteArray)) := ⟨_, rfl⟩
  replace H : (spec_Distinct.l0 k y684 l0 (l0.length : Int) 0) = some r := by first | (rw [hy684]; with_reducible exact H) | (have H2_ := (Option.bind_some _ _).symm.trans H; rw [hy684]; with_reducible exact H2_) | (have H2_ := (Option.bind_some _ _).symm.trans H; with_reducible exact H2_) | with_reducible exact H | (rw [hy684]; exact H) | exact H
  have Ny684 := Aside0.mk hy684
  clear hy684
  have H' := Aside0.mk H
  clear H
  go_enter Try.func41, Try.ntmps41
  go_wp2_with (first | ((with_reducible refine gate_dst (N := 6) rfl ?_); refine Kd.R_lit Kd.string _ 9 ?hg (N := 6) ?hd (xs := ([] : List ByteArray)) (inner := []) (ok := fun _ => True) (okp := fun _ => True) ?hr ?hp (fun _ hk => hk) trivial (Below.refl _ _) (Nat.le_refl _) (by simp) ?_; (case hd => rfl); (case hg => rfl); (case hr => first | (go_simp; done) | (go_simp; rfl)); (case hp => exact (Reps.none _ _)); intro v685 w2 ho3 hb hg_ hnew_; clear hg_ hnew_; (first | rw [← Ny684.out] at ho3 | (simp only [Int.reduceToNat] at ho3; rw [← Ny684.out] at ho3)); have n0_ := Aside0.mk (Kd.R_lower ho3 (below_size (by repeat (first | (with_reducible first | exact HB.out | apply below_alloc | apply pw_below_drewN | apply below_drew1) | exact HB.out)))); have n1_ := Aside0.mk (below_step (by repeat (first | (with_reducible first | exact HB.out | apply below_alloc | apply pw_below_drewN | apply below_drew1) | exact HB.out)) hb); clear HB; have HO686 := n0_; have HB := n1_; clear n0_ n1_; clear hb ho3))
  go_loopg [3, 9] k (fun kq v3 v9 w' => ∃ (x3_1 : List ByteArray) (x9_1 : Int), v9 = .int .i64 x9_1 ∧ Aside0 (spec_Distinct.l0 kq x3_1 l0 (l0.length : Int) x9_1 = some r) ∧ Aside0 (kq ≤ k) ∧ Aside0 (Kd.R Kd.string 9 w' w.heap.size (fun _ => True) v3 x3_1) ∧ Aside0 (Below w.heap.size w w'))
  case atStart => exact ⟨(y684), (0), (by first | rfl | (simp; done) | (simp [*]; done)), H', ⟨Nat.le_refl _⟩, ⟨by (with_reducible repeat (first | apply Kd.R_alloc | apply Kd.R_drewN | apply Kd.R_drew)); exact HO686.out⟩, ⟨by repeat (first | (with_reducible first | exact HB.out | apply below_alloc | apply pw_below_drewN | apply below_drew1) | exact HB.out)⟩⟩
  case round =>
    clear H'
    try clear p2
    obtain ⟨x3_1, x9_1, rfl, HA, HK1, HO_3, HB⟩ := hrel
    cases gk with
    | zero => exact absurd HA.out (by simp [spec_Distinct.l0])
    | succ k1 =>
      have H := HA.out
      clear HA
      simp only [spec_Distinct.l0] at H
      by_cases c4 : x9_1 < (l0.length : Int)
      · rw [if_pos c4] at H
        have c4b0 : decide (x9_1 < (l0.length : Int)) = true := decide_eq_true c4
        clear c4
        by_cases c5 : 0 ≤ x9_1
        · rw [if_pos c5] at H
          have c5b0 : decide (0 ≤ x9_1) = true := decide_eq_true c5
          clear c5
          by_cases c6 : x9_1 < (l0.length : Int)
          · rw [if_pos c6] at H
            have c6b0 : decide (x9_1 < (l0.length : Int)) = true := decide_eq_true c6
            clear c6
            replace H := Option.bind_eq_some_iff.mp H
            obtain ⟨t688, A70, H⟩ := H
            replace H : (if t688 = true then (spec_Distinct.l0 k1 x3_1 l0 (l0.length : Int) (wrap64 (x9_1 + 1))) else (if x3_1.length < 8796093022208 then (spec_Distinct.l0 k1 (x3_1 ++ [rdOf ByteArray.empty l0 x9_1]) l0 (l0.length : Int) (wrap64 (x9_1 + 1))) else (none))) = some r := H
            have A7 := Aside0.mk A70
            clear A70
            by_cases c8 : t688 = true
            · subst c8
              have H1 : (spec_Distinct.l0 k1 x3_1 l0 (l0.length : Int) (wrap64 (x9_1 + 1))) = some r := by rw [if_pos rfl] at H; exact H
              clear H
              have H := H1
              clear H1
              have H' := Aside0.mk H
              clear H
              have p687 : 0 ≤ (x9_1 : Int) := of_decide_eq_true (by first | (with_reducible assumption) | assumption)
              have q687 : x9_1 < (l0.length : Int) := of_decide_eq_true (by first | (with_reducible assumption) | assumption)
              obtain ⟨ad687, e687, hx687_0⟩ := Kd.at_string HR0.out x9_1 p687 q687
              cases e687
              replace hx687_0 := (HB.out.cell (World.block_lt_of_cell? w _ hx687_0)).trans hx687_0
              replace p687 := eq_true p687
              replace q687 := eq_true q687
              obtain ⟨Ao9, co9, eo9⟩ := Kd.R_slice HO_3.out
              subst eo9
              go_wp2_with (first | ((with_reducible refine gate_callee (f := 99) rfl ?_); refine goesL_ (some 15) rfl rfl Try.func99 (by kernel_rfl) rfl #[.slice Ao9 x3_1.length co9, .string (rdOf ByteArray.empty l0 x9_1)] rfl (by (try simp only [List.map_toArray, List.map_cons, List.map_nil]); first | done | rfl | (simp only [List.length_drop, List.length_take]; rfl)) ?_; (with_reducible refine (spec_l12Has.calls k1 _ _ x3_1 (rdOf ByteArray.empty l0 x9_1) true _ ?side1 ?side2 A7.out).mono ?_); (case side1 => repeat (first | exact (Kd.R_reads' HO_3.out).2.2 | (with_reducible refine Kd.C_alloc ?_ _) | (with_reducible refine Kd.C_drewN ?_ _) | (with_reducible refine Kd.C_drew ?_))); (case side2 => exact (Kd.R_reads' HO_3.out).2.1); rintro e w' ⟨rfl, ⟨nd, rfl⟩⟩; refine ⟨_, rfl, ?_⟩))
              go_roundg k1
              case measure => have := HK1.out; omega
              case rel => exact ⟨(x3_1), (wrap64 (x9_1 + 1)), (by first | rfl | (simp; done) | (simp [*]; done)), H', ⟨by have := HK1.out; omega⟩, ⟨by (with_reducible repeat (first | apply Kd.R_alloc | apply Kd.R_drewN | apply Kd.R_drew)); exact HO_3.out⟩, ⟨by repeat (first | (with_reducible first | exact HB.out | apply below_alloc | apply pw_below_drewN | apply below_drew1) | exact HB.out)⟩⟩
            · replace c8 := Bool.eq_false_iff.mpr c8
              subst c8
              have H1 : (if x3_1.length < 8796093022208 then (spec_Distinct.l0 k1 (x3_1 ++ [rdOf ByteArray.empty l0 x9_1]) l0 (l0.length : Int) (wrap64 (x9_1 + 1))) else (none)) = some r := by rw [if_neg (show ¬ (false = true) by decide)] at H; exact H
              clear H
              have H := H1
              clear H1
              by_cases c10 : x3_1.length < 8796093022208
              · rw [if_pos c10] at H
                have LMc10 := Aside0.mk c10
                clear c10
                obtain ⟨y689, hy689⟩ : ∃ y_ : List ByteArray, y_ = (x3_1 ++ [rdOf ByteArray.empty l0 x9_1]) := ⟨_, rfl⟩
                replace H : (spec_Distinct.l0 k1 y689 l0 (l0.length : Int) (wrap64 (x9_1 + 1))) = some r := by first | (rw [hy689]; with_reducible exact H) | (have H2_ := (Option.bind_some _ _).symm.trans H; rw [hy689]; with_reducible exact H2_) | (have H2_ := (Option.bind_some _ _).symm.trans H; with_reducible exact H2_) | with_reducible exact H | (rw [hy689]; exact H) | exact H
                have Ny689 := Aside0.mk hy689
                clear hy689
                have H' := Aside0.mk H
                clear H
                have p687 : 0 ≤ (x9_1 : Int) := of_decide_eq_true (by first | (with_reducible assumption) | assumption)
                have q687 : x9_1 < (l0.length : Int) := of_decide_eq_true (by first | (with_reducible assumption) | assumption)
                obtain ⟨ad687, e687, hx687_0⟩ := Kd.at_string HR0.out x9_1 p687 q687
                cases e687
                replace hx687_0 := (HB.out.cell (World.block_lt_of_cell? w _ hx687_0)).trans hx687_0
                replace p687 := eq_true p687
                replace q687 := eq_true q687
                obtain ⟨Ao11, co11, eo11⟩ := Kd.R_slice HO_3.out
                subst eo11
                go_wp2_with (first | ((with_reducible refine gate_callee (f := 99) rfl ?_); refine goesL_ (some 15) rfl rfl Try.func99 (by kernel_rfl) rfl #[.slice Ao11 x3_1.length co11, .string (rdOf ByteArray.empty l0 x9_1)] rfl (by (try simp only [List.map_toArray, List.map_cons, List.map_nil]); first | done | rfl | (simp only [List.length_drop, List.length_take]; rfl)) ?_; (with_reducible refine (spec_l12Has.calls k1 _ _ x3_1 (rdOf ByteArray.empty l0 x9_1) false _ ?side1 ?side2 A7.out).mono ?_); (case side1 => repeat (first | exact (Kd.R_reads' HO_3.out).2.2 | (with_reducible refine Kd.C_alloc ?_ _) | (with_reducible refine Kd.C_drewN ?_ _) | (with_reducible refine Kd.C_drew ?_))); (case side2 => exact (Kd.R_reads' HO_3.out).2.1); rintro e w' ⟨rfl, ⟨nd, rfl⟩⟩; refine ⟨_, rfl, ?_⟩) | ((with_reducible refine gate_builtin (b := .append) (xs := #[.tmp 17, .tmp 19]) rfl ?_); at_builtin; refine Kd.R_append Kd.string (w0 := w) w.heap.size rfl (.tmp 17) (.tmp 19) 23 9 (.string ⟨#[]⟩) 16 rfl Try.underlying23 info9 rfl (by decide) (by omega) (.slice Ao11 x3_1.length co11) x3_1 (rdOf ByteArray.empty l0 x9_1) [.string (rdOf ByteArray.empty l0 x9_1)] (fun _ => True) (fun _ => False) rfl rfl ?aP (fun _ hk => hk.elim) ?aF ?aO ?aB ?aS ?aL ?_; (case aP => exact rfl); (case aB => exact (by repeat (first | (with_reducible first | exact HB.out | apply below_alloc | apply pw_below_drewN | apply below_drew1) | exact HB.out))); (case aF => exact (fun _ _ => trivial)); (case aO => exact (by (with_reducible repeat (first | apply Kd.R_alloc | apply Kd.R_drewN | apply Kd.R_drew)); exact HO_3.out)); (case aS => exact (below_size (by repeat (first | (with_reducible first | exact HB.out | apply below_alloc | apply pw_below_drewN | apply below_drew1) | exact HB.out)))); (case aL => have := LMc10.out; omega); intro v690 w12 ho hb hg hat; rw [← Ny689.out] at ho; have n0_ := Aside0.mk (hb); have n1_ := Aside0.mk (ho); clear HB; clear HO_3; have HB := n0_; have HO691 := n1_; clear n0_ n1_; clear ho hb hg hat))
                go_roundg k1
                case measure => have := HK1.out; omega
                case rel => exact ⟨(y689), (wrap64 (x9_1 + 1)), (by first | rfl | (simp; done) | (simp [*]; done)), H', ⟨by have := HK1.out; omega⟩, ⟨by (with_reducible repeat (first | apply Kd.R_alloc | apply Kd.R_drewN | apply Kd.R_drew)); exact HO691.out⟩, ⟨by repeat (first | (with_reducible first | exact HB.out | apply below_alloc | apply pw_below_drewN | apply below_drew1) | exact HB.out)⟩⟩
              · rw [if_neg c10] at H
                exact absurd H (by simp)
          · rw [if_neg c6] at H
            exact absurd H (by simp)
        · rw [if_neg c5] at H
          exact absurd H (by simp)
      · rw [if_neg c4] at H
        have c4b0 : decide (x9_1 < (l0.length : Int)) = false := decide_eq_false c4
        clear c4
        obtain rfl := Option.some.inj H
        go_wp2
        go_ret
        exact ⟨_, by first | rfl | (simp [errW_none, errW_some] <;> rfl) | (simp [*, errW_none, errW_some] <;> rfl), by (with_reducible repeat (first | apply Kd.R_alloc | apply Kd.R_drewN | apply Kd.R_drew)); exact HO_3.out, by repeat (first | (with_reducible first | exact HB.out | apply below_alloc | apply pw_below_drewN | apply below_drew1) | exact HB.out)⟩

end Go.Proofs.Ytkaahabgbngodaa.Core

namespace Go.Proofs.Ytkaahabgbngodaa.Core
open Go.RowKit Go.Proofs.YtkaahabgbngodaaW.PrintWords Go.Proofs.YtkaahabgbngodaaW.PrintLast Go.Proofs.YtkaahabgbngodaaW.PrintMore
attribute [local go_sem] max2_int min2_int max_two min_two max_three min_three max_four min_four   -- for this text's walks alone
set_option linter.unusedVariables false
set_option linter.unusedSimpArgs false

/-! ### laws_FnLru: function 8 -/
mutual
def laws_FnLru.j0 : Nat → List ByteArray → Int → Bool → Int → Int → Int → Int → Int → Int → Option (Bool)
  | 0, _, _, _, _, _, _, _, _, _ => none
  | k + 1, x3, x4, x51, x700000, x700001, x700002, x701000, x701001, x701002 => if x51 = true then (some false) else ((impl_Holds.f k x701000 x701001 x701002 x3).bind fun t710 => ((impl_Holds.f k x700000 x700001 x700002 x3).bind fun t713 => ((impl_Distinct.f k x3).bind fun t716 => (if (t716.length : Int) > x4 then (laws_FnLru.j1 k x3 t710 t713 x4) else (laws_FnLru.j1 k x3 t710 t713 (t716.length : Int))))))
def laws_FnLru.j1 : Nat → List ByteArray → List ByteArray → List ByteArray → Int → Option (Bool)
  | 0, _, _, _, _ => none
  | k + 1, x3, x8, x9, x10 => laws_FnLru.l0 k x3 x8 x9 x10 x9 (x9.length : Int) 0
def laws_FnLru.l0 : Nat → List ByteArray → List ByteArray → List ByteArray → Int → List ByteArray → Int → Int → Option (Bool)
  | 0, _, _, _, _, _, _, _ => none
  | k + 1, x3, x8, x9, x10, x65, x66, x67 => if x67 < x66 then (if 0 ≤ x67 then (if x67 < (x65.length : Int) then ((laws_hasText.f k x8 (rdOf ByteArray.empty x65 x67)).bind fun t720 => (if t720 = true then (laws_FnLru.l0 k x3 x8 x9 x10 x65 x66 (wrap64 (x67 + 1))) else (some false))) else (none)) else (none)) else (if (x9.length : Int) = x10 then ((spec_Distinct.f k x3).bind fun t721 => ((impl_Distinct.f k x3).bind fun t724 => (some ((t721.length : Int) == (t724.length : Int))))) else (some false))
end
def laws_FnLru.f (k : Nat) (l0 : List Int) : Option (Bool) := if (l0.length : Int) > 1048576 then (some true) else ((spec_MakeAsks.f k l0 24).bind fun t692 => ((spec_MakeNum.f k l0 5).bind fun t695 => ((impl_DepthsOf.f k t692).bind fun t696 => (if (t696.length : Int) = (t692.length : Int) then ((impl_CountOf.f k 2 (wrap64 (1 + t695)) 0 t692).bind fun bt701 => ((impl_MissesAt.f k t696 (wrap64 (1 + t695))).bind fun t705 => (if bt701.2.2.1 = t705 then ((impl_CountOf.f k 2 (wrap64 (1 + t695)) 0 t692).bind fun bt706 => (laws_FnLru.j0 k t692 (wrap64 (1 + t695)) (bt706.1 != (t692.length : Int)) 2 (wrap64 (1 + t695)) 0 2 (wrap64 ((wrap64 (1 + t695)) + 1)) 0)) else (laws_FnLru.j0 k t692 (wrap64 (1 + t695)) true 2 (wrap64 (1 + t695)) 0 2 (wrap64 ((wrap64 (1 + t695)) + 1)) 0)))) else (laws_FnLru.j0 k t692 (wrap64 (1 + t695)) true 2 (wrap64 (1 + t695)) 0 2 (wrap64 ((wrap64 (1 + t695)) + 1)) 0)))))
theorem laws_FnLru.mono_l : ∀ k, (∀ y0 y1 y2 y3 y4 y5 y6 y7 y8, LeO (laws_FnLru.j0 k y0 y1 y2 y3 y4 y5 y6 y7 y8) (laws_FnLru.j0 (k + 1) y0 y1 y2 y3 y4 y5 y6 y7 y8)) ∧ (∀ y0 y1 y2 y3, LeO (laws_FnLru.j1 k y0 y1 y2 y3) (laws_FnLru.j1 (k + 1) y0 y1 y2 y3)) ∧ (∀ y0 y1 y2 y3 y4 y5 y6, LeO (laws_FnLru.l0 k y0 y1 y2 y3 y4 y5 y6) (laws_FnLru.l0 (k + 1) y0 y1 y2 y3 y4 y5 y6))
  | 0 => ⟨fun _ _ _ _ _ _ _ _ _ r h => by simp [laws_FnLru.j0] at h, fun _ _ _ _ r h => by simp [laws_FnLru.j1] at h, fun _ _ _ _ _ _ _ r h => by simp [laws_FnLru.l0] at h⟩
  | k + 1 => by
    obtain ⟨ih0, ih1, ih2⟩ := laws_FnLru.mono_l k
    refine ⟨?_, ?_, ?_⟩
    · intro y0 y1 y2 y3 y4 y5 y6 y7 y8
      unfold laws_FnLru.j0
      repeat' first
      | (with_reducible exact ih0 _ _ _ _ _ _ _ _ _)
      | (with_reducible exact ih1 _ _ _ _)
      | (with_reducible exact ih2 _ _ _ _ _ _ _)
      | (with_reducible exact impl_CountOf.mono _ _ _ _ _)
      | (with_reducible exact impl_DepthsOf.mono _ _)
      | (with_reducible exact impl_Distinct.mono _ _)
      | (with_reducible exact impl_Holds.mono _ _ _ _ _)
      | (with_reducible exact impl_MissesAt.mono _ _ _)
      | (with_reducible exact laws_hasText.mono _ _ _)
      | (with_reducible exact spec_Distinct.mono _ _)
      | (with_reducible exact spec_MakeAsks.mono _ _ _)
      | (with_reducible exact spec_MakeNum.mono _ _ _)
      | (with_reducible exact LeO.refl _)
      | (with_reducible exact LeO.none _)
      | (with_reducible refine LeO.ite ?_ ?_)
      | (with_reducible refine LeO.bind ?_ (fun _ => ?_))
      | exact ih0 _ _ _ _ _ _ _ _ _
      | exact ih1 _ _ _ _
      | exact ih2 _ _ _ _ _ _ _
      | exact impl_CountOf.mono _ _ _ _ _
      | exact impl_DepthsOf.mono _ _
      | exact impl_Distinct.mono _ _
      | exact impl_Holds.mono _ _ _ _ _
      | exact impl_MissesAt.mono _ _ _
      | exact laws_hasText.mono _ _ _
      | exact spec_Distinct.mono _ _
      | exact spec_MakeAsks.mono _ _ _
      | exact spec_MakeNum.mono _ _ _
      | exact LeO.none _
      | refine LeO.ite ?_ ?_
      | refine LeO.bind ?_ (fun _ => ?_)
    · intro y0 y1 y2 y3
      unfold laws_FnLru.j1
      repeat' first
      | (with_reducible exact ih0 _ _ _ _ _ _ _ _ _)
      | (with_reducible exact ih1 _ _ _ _)
      | (with_reducible exact ih2 _ _ _ _ _ _ _)
      | (with_reducible exact impl_CountOf.mono _ _ _ _ _)
      | (with_reducible exact impl_DepthsOf.mono _ _)
      | (with_reducible exact impl_Distinct.mono _ _)
      | (with_reducible exact impl_Holds.mono _ _ _ _ _)
      | (with_reducible exact impl_MissesAt.mono _ _ _)
      | (with_reducible exact laws_hasText.mono _ _ _)
      | (with_reducible exact spec_Distinct.mono _ _)
      | (with_reducible exact spec_MakeAsks.mono _ _ _)
      | (with_reducible exact spec_MakeNum.mono _ _ _)
      | (with_reducible exact LeO.refl _)
      | (with_reducible exact LeO.none _)
      | (with_reducible refine LeO.ite ?_ ?_)
      | (with_reducible refine LeO.bind ?_ (fun _ => ?_))
      | exact ih0 _ _ _ _ _ _ _ _ _
      | exact ih1 _ _ _ _
      | exact ih2 _ _ _ _ _ _ _
      | exact impl_CountOf.mono _ _ _ _ _
      | exact impl_DepthsOf.mono _ _
      | exact impl_Distinct.mono _ _
      | exact impl_Holds.mono _ _ _ _ _
      | exact impl_MissesAt.mono _ _ _
      | exact laws_hasText.mono _ _ _
      | exact spec_Distinct.mono _ _
      | exact spec_MakeAsks.mono _ _ _
      | exact spec_MakeNum.mono _ _ _
      | exact LeO.none _
      | refine LeO.ite ?_ ?_
      | refine LeO.bind ?_ (fun _ => ?_)
    · intro y0 y1 y2 y3 y4 y5 y6
      unfold laws_FnLru.l0
      repeat' first
      | (with_reducible exact ih0 _ _ _ _ _ _ _ _ _)
      | (with_reducible exact ih1 _ _ _ _)
      | (with_reducible exact ih2 _ _ _ _ _ _ _)
      | (with_reducible exact impl_CountOf.mono _ _ _ _ _)
      | (with_reducible exact impl_DepthsOf.mono _ _)
      | (with_reducible exact impl_Distinct.mono _ _)
      | (with_reducible exact impl_Holds.mono _ _ _ _ _)
      | (with_reducible exact impl_MissesAt.mono _ _ _)
      | (with_reducible exact laws_hasText.mono _ _ _)
      | (with_reducible exact spec_Distinct.mono _ _)
      | (with_reducible exact spec_MakeAsks.mono _ _ _)
      | (with_reducible exact spec_MakeNum.mono _ _ _)
      | (with_reducible exact LeO.refl _)
      | (with_reducible exact LeO.none _)
      | (with_reducible refine LeO.ite ?_ ?_)
      | (with_reducible refine LeO.bind ?_ (fun _ => ?_))
      | exact ih0 _ _ _ _ _ _ _ _ _
      | exact ih1 _ _ _ _
      | exact ih2 _ _ _ _ _ _ _
      | exact impl_CountOf.mono _ _ _ _ _
      | exact impl_DepthsOf.mono _ _
      | exact impl_Distinct.mono _ _
      | exact impl_Holds.mono _ _ _ _ _
      | exact impl_MissesAt.mono _ _ _
      | exact laws_hasText.mono _ _ _
      | exact spec_Distinct.mono _ _
      | exact spec_MakeAsks.mono _ _ _
      | exact spec_MakeNum.mono _ _ _
      | exact LeO.none _
      | refine LeO.ite ?_ ?_
      | refine LeO.bind ?_ (fun _ => ?_)
theorem laws_FnLru.mono : ∀ a0 k, LeO (laws_FnLru.f k a0) (laws_FnLru.f (k + 1) a0) := by
  intro a0 k
  obtain ⟨ih0, ih1, ih2⟩ := laws_FnLru.mono_l k
  unfold laws_FnLru.f
  repeat' first
      | (with_reducible exact ih0 _ _ _ _ _ _ _ _ _)
      | (with_reducible exact ih1 _ _ _ _)
      | (with_reducible exact ih2 _ _ _ _ _ _ _)
      | (with_reducible exact impl_CountOf.mono _ _ _ _ _)
      | (with_reducible exact impl_DepthsOf.mono _ _)
      | (with_reducible exact impl_Distinct.mono _ _)
      | (with_reducible exact impl_Holds.mono _ _ _ _ _)
      | (with_reducible exact impl_MissesAt.mono _ _ _)
      | (with_reducible exact laws_hasText.mono _ _ _)
      | (with_reducible exact spec_Distinct.mono _ _)
      | (with_reducible exact spec_MakeAsks.mono _ _ _)
      | (with_reducible exact spec_MakeNum.mono _ _ _)
      | (with_reducible exact LeO.refl _)
      | (with_reducible exact LeO.none _)
      | (with_reducible refine LeO.ite ?_ ?_)
      | (with_reducible refine LeO.bind ?_ (fun _ => ?_))
      | exact ih0 _ _ _ _ _ _ _ _ _
      | exact ih1 _ _ _ _
      | exact ih2 _ _ _ _ _ _ _
      | exact impl_CountOf.mono _ _ _ _ _
      | exact impl_DepthsOf.mono _ _
      | exact impl_Distinct.mono _ _
      | exact impl_Holds.mono _ _ _ _ _
      | exact impl_MissesAt.mono _ _ _
      | exact laws_hasText.mono _ _ _
      | exact spec_Distinct.mono _ _
      | exact spec_MakeAsks.mono _ _ _
      | exact spec_MakeNum.mono _ _ _
      | exact LeO.none _
      | refine LeO.ite ?_ ?_
      | refine LeO.bind ?_ (fun _ => ?_)
theorem laws_FnLru.field45_0 (a b c d : Value) (w : World) : Sem.run Try.prog (Instr.field 45 (Value.agg #[a, b, c, d]) 0) w = Result.ok a w := by kernel_rfl
attribute [local go_sem high] laws_FnLru.field45_0
theorem laws_FnLru.field45_2 (a b c d : Value) (w : World) : Sem.run Try.prog (Instr.field 45 (Value.agg #[a, b, c, d]) 2) w = Result.ok c w := by kernel_rfl
attribute [local go_sem high] laws_FnLru.field45_2
theorem laws_FnLru.j0_no (k : Nat) (y0 : List ByteArray) (y1 : Int) (y3 : Int) (y4 : Int) (y5 : Int) (y6 : Int) (y7 : Int) (y8 : Int) : laws_FnLru.j0 k y0 y1 true y3 y4 y5 y6 y7 y8 ≠ some true := by cases k <;> simp [laws_FnLru.j0]
set_option maxHeartbeats 8000000 in
set_option maxRecDepth 100000 in
theorem laws_FnLru.calls (k : Nat) (A0 : Option Addr) (c0 : Nat) (l0 : List Int) (w : World) (hr0 : Kd.C (Kd.int .u8) w A0 l0.length l0) (hc0 : l0.length ≤ c0) (h : laws_FnLru.f k l0 = some true) :
    Calls Try.prog 8 #[.slice A0 l0.length c0] w fun e w' => e = .returned (.bool true) ∧ Below w.heap.size w w' := by
  have hu28 := Try.underlying28
  have HR0 := Aside0.mk hr0
  have HC0 := Aside0.mk hc0
  clear hr0 hc0
  have HB := Aside0.mk (Below.refl w.heap.size w)
  have H : (if (l0.length : Int) > 1048576 then (some true) else ((spec_MakeAsks.f k l0 24).bind fun t692 => ((spec_MakeNum.f k l0 5).bind fun t695 => ((impl_DepthsOf.f k t692).bind fun t696 => (if (t696.length : Int) = (t692.length : Int) then ((impl_CountOf.f k 2 (wrap64 (1 + t695)) 0 t692).bind fun bt701 => ((impl_MissesAt.f k t696 (wrap64 (1 + t695))).bind fun t705 => (if bt701.2.2.1 = t705 then ((impl_CountOf.f k 2 (wrap64 (1 + t695)) 0 t692).bind fun bt706 => (laws_FnLru.j0 k t692 (wrap64 (1 + t695)) (bt706.1 != (t692.length : Int)) 2 (wrap64 (1 + t695)) 0 2 (wrap64 ((wrap64 (1 + t695)) + 1)) 0)) else (laws_FnLru.j0 k t692 (wrap64 (1 + t695)) true 2 (wrap64 (1 + t695)) 0 2 (wrap64 ((wrap64 (1 + t695)) + 1)) 0)))) else (laws_FnLru.j0 k t692 (wrap64 (1 + t695)) true 2 (wrap64 (1 + t695)) 0 2 (wrap64 ((wrap64 (1 + t695)) + 1)) 0)))))) = some true := h
  clear h
  by_cases c2 : (l0.length : Int) > 1048576
  · rw [if_pos c2] at H
    have c2b0 : decide (1048576 < (l0.length : Int)) = true := decide_eq_true c2
    have c2b1 : decide (1048576 < l0.length) = true := decide_eq_true (by omega)
    clear c2
    have hr_ := Aside0.mk (Option.some.inj H)
    go_enter Try.func8, Try.ntmps8
    go_wp2
    go_ret
    exact ⟨by first | rfl | (have hz_ := hr_.out; simp [hz_]; done) | (have hz_ := hr_.out; simp at hz_; simp [hz_]; done) | (have hz_ := hr_.out; simp at hz_ ⊢; omega) | (simp [errW_none, errW_some] <;> rfl) | (simp [*, errW_none, errW_some] <;> rfl), by repeat (first | (with_reducible first | exact HB.out | apply below_alloc | apply pw_below_drewN | apply below_drew1) | exact HB.out)⟩
  · rw [if_neg c2] at H
    have c2b0 : decide (1048576 < (l0.length : Int)) = false := decide_eq_false c2
    have c2b1 : decide (1048576 < l0.length) = false := decide_eq_false (by omega)
    clear c2
    replace H := Option.bind_eq_some_iff.mp H
    obtain ⟨t692, A30, H⟩ := H
    replace H : ((spec_MakeNum.f k l0 5).bind fun t695 => ((impl_DepthsOf.f k t692).bind fun t696 => (if (t696.length : Int) = (t692.length : Int) then ((impl_CountOf.f k 2 (wrap64 (1 + t695)) 0 t692).bind fun bt701 => ((impl_MissesAt.f k t696 (wrap64 (1 + t695))).bind fun t705 => (if bt701.2.2.1 = t705 then ((impl_CountOf.f k 2 (wrap64 (1 + t695)) 0 t692).bind fun bt706 => (laws_FnLru.j0 k t692 (wrap64 (1 + t695)) (bt706.1 != (t692.length : Int)) 2 (wrap64 (1 + t695)) 0 2 (wrap64 ((wrap64 (1 + t695)) + 1)) 0)) else (laws_FnLru.j0 k t692 (wrap64 (1 + t695)) true 2 (wrap64 (1 + t695)) 0 2 (wrap64 ((wrap64 (1 + t695)) + 1)) 0)))) else (laws_FnLru.j0 k t692 (wrap64 (1 + t695)) true 2 (wrap64 (1 + t695)) 0 2 (wrap64 ((wrap64 (1 + t695)) + 1)) 0)))) = some true := H
    have A3 := Aside0.mk A30
    clear A30
    replace H := Option.bind_eq_some_iff.mp H
    obtain ⟨t695, A40, H⟩ := H
    replace H : ((impl_DepthsOf.f k t692).bind fun t696 => (if (t696.length : Int) = (t692.length : Int) then ((impl_CountOf.f k 2 (wrap64 (1 + t695)) 0 t692).bind fun bt701 => ((impl_MissesAt.f k t696 (wrap64 (1 + t695))).bind fun t705 => (if bt701.2.2.1 = t705 then ((impl_CountOf.f k 2 (wrap64 (1 + t695)) 0 t692).bind fun bt706 => (laws_FnLru.j0 k t692 (wrap64 (1 + t695)) (bt706.1 != (t692.length : Int)) 2 (wrap64 (1 + t695)) 0 2 (wrap64 ((wrap64 (1 + t695)) + 1)) 0)) else (laws_FnLru.j0 k t692 (wrap64 (1 + t695)) true 2 (wrap64 (1 + t695)) 0 2 (wrap64 ((wrap64 (1 + t695)) + 1)) 0)))) else (laws_FnLru.j0 k t692 (wrap64 (1 + t695)) true 2 (wrap64 (1 + t695)) 0 2 (wrap64 ((wrap64 (1 + t695)) + 1)) 0))) = some true := H
    have A4 := Aside0.mk A40
    clear A40
    replace H := Option.bind_eq_some_iff.mp H
    obtain ⟨t696, A50, H⟩ := H
    replace H : (if (t696.length : Int) = (t692.length : Int) then ((impl_CountOf.f k 2 (wrap64 (1 + t695)) 0 t692).bind fun bt701 => ((impl_MissesAt.f k t696 (wrap64 (1 + t695))).bind fun t705 => (if bt701.2.2.1 = t705 then ((impl_CountOf.f k 2 (wrap64 (1 + t695)) 0 t692).bind fun bt706 => (laws_FnLru.j0 k t692 (wrap64 (1 + t695)) (bt706.1 != (t692.length : Int)) 2 (wrap64 (1 + t695)) 0 2 (wrap64 ((wrap64 (1 + t695)) + 1)) 0)) else (laws_FnLru.j0 k t692 (wrap64 (1 + t695)) true 2 (wrap64 (1 + t695)) 0 2 (wrap64 ((wrap64 (1 + t695)) + 1)) 0)))) else (laws_FnLru.j0 k t692 (wrap64 (1 + t695)) true 2 (wrap64 (1 + t695)) 0 2 (wrap64 ((wrap64 (1 + t695)) + 1)) 0)) = some true := H
    have A5 := Aside0.mk A50
    clear A50
    have HC6 := Aside0.mk H
    clear H
    go_enter Try.func8, Try.ntmps8
    go_upto_region 8 with (first | ((with_reducible refine gate_callee (f := 15) rfl ?_); refine goesL_ (some 17) rfl rfl Try.func15 (by kernel_rfl) rfl #[.slice A0 l0.length c0, .int .i64 24] rfl (by (try simp only [List.map_toArray, List.map_cons, List.map_nil]); first | done | rfl | (simp only [List.length_drop, List.length_take]; rfl)) ?_; (with_reducible refine (spec_MakeAsks.calls k _ _ l0 24 t692 _ ?side1 ?side2 A3.out).mono ?_); (case side1 => repeat (first | exact HR0.out | (with_reducible refine Kd.C_alloc ?_ _) | (with_reducible refine Kd.C_drewN ?_ _) | (with_reducible refine Kd.C_drew ?_))); (case side2 => exact HC0.out); rintro e w7 ⟨v693, rfl, ho0, hb⟩; refine ⟨_, rfl, ?_⟩; have n0_ := Aside0.mk (Kd.R_lower ho0 (below_size (by repeat (first | (with_reducible first | exact HB.out | apply below_alloc | apply pw_below_drewN | apply below_drew1) | exact HB.out)))); have n1_ := Aside0.mk (below_step (by repeat (first | (with_reducible first | exact HB.out | apply below_alloc | apply pw_below_drewN | apply below_drew1) | exact HB.out)) hb); clear HB; have HO694 := n0_; have HB := n1_; clear n0_ n1_; (try clear hb); (try clear hb2); (try clear hk); (try clear hi); (try clear ho0)) | ((with_reducible refine gate_callee (f := 16) rfl ?_); refine goesL_ (some 19) rfl rfl Try.func16 (by kernel_rfl) rfl #[.slice A0 l0.length c0, .int .i64 5] rfl (by (try simp only [List.map_toArray, List.map_cons, List.map_nil]); first | done | rfl | (simp only [List.length_drop, List.length_take]; rfl)) ?_; (with_reducible refine (spec_MakeNum.calls k _ _ l0 5 t695 _ ?side1 ?side2 A4.out).mono ?_); (case side1 => repeat (first | exact (Kd.C_below HR0.out HB.out) | (with_reducible refine Kd.C_alloc ?_ _) | (with_reducible refine Kd.C_drewN ?_ _) | (with_reducible refine Kd.C_drew ?_))); (case side2 => exact HC0.out); rintro e w8 ⟨rfl, hb⟩; refine ⟨_, rfl, ?_⟩; have n0_ := Aside0.mk (Kd.R_below (by (with_reducible repeat (first | apply Kd.R_alloc | apply Kd.R_drewN | apply Kd.R_drew)); exact HO694.out) hb); have n1_ := Aside0.mk (below_step (by repeat (first | (with_reducible first | exact HB.out | apply below_alloc | apply pw_below_drewN | apply below_drew1) | exact HB.out)) hb); clear HO694; clear HB; have HO694 := n0_; have HB := n1_; clear n0_ n1_; (try clear hb); (try clear hb2); (try clear hk); (try clear hi); obtain ⟨Ao9, co9, eo9⟩ := Kd.R_slice HO694.out; subst eo9) | ((with_reducible refine gate_callee (f := 38) rfl ?_); refine goesL_ (some 22) rfl rfl Try.func38 (by kernel_rfl) rfl #[.slice Ao9 t692.length co9] rfl (by (try simp only [List.map_toArray, List.map_cons, List.map_nil]); first | done | rfl | (simp only [List.length_drop, List.length_take]; rfl)) ?_; (with_reducible refine (impl_DepthsOf.calls k _ _ t692 t696 _ ?side1 ?side2 A5.out).mono ?_); (case side1 => repeat (first | exact (Kd.R_reads' HO694.out).2.2 | (with_reducible refine Kd.C_alloc ?_ _) | (with_reducible refine Kd.C_drewN ?_ _) | (with_reducible refine Kd.C_drew ?_))); (case side2 => exact (Kd.R_reads' HO694.out).2.1); rintro e w10 ⟨v697, rfl, ho0, hb⟩; refine ⟨_, rfl, ?_⟩; have n0_ := Aside0.mk (Kd.R_below (by (with_reducible repeat (first | apply Kd.R_alloc | apply Kd.R_drewN | apply Kd.R_drew)); exact HO694.out) hb); have n1_ := Aside0.mk (Kd.R_lower ho0 (below_size (by repeat (first | (with_reducible first | exact HB.out | apply below_alloc | apply pw_below_drewN | apply below_drew1) | exact HB.out)))); have n2_ := Aside0.mk (below_step (by repeat (first | (with_reducible first | exact HB.out | apply below_alloc | apply pw_below_drewN | apply below_drew1) | exact HB.out)) hb); clear HO694; clear HB; have HO694 := n0_; have HO698 := n1_; have HB := n2_; clear n0_ n1_ n2_; (try clear hb); (try clear hb2); (try clear hk); (try clear hi); (try clear ho0)) | ((with_reducible refine gate_dst (N := 6) rfl ?_); (try (refine gate_guard (by rfl) ?_; dsimp only)); refine box_event ?hg (N := 6) ?hd (cs := #[.int .i64 0, .int .i64 0, .int .i64 0]) (t := 28) ?hr ?_; (case hd => rfl); (case hg => rfl); (case hr => first | (go_simp; done) | (go_simp; rfl)); intro gb699 hg w11 hbox hb; have n0_ := Aside0.mk (Kd.R_below (by (with_reducible repeat (first | apply Kd.R_alloc | apply Kd.R_drewN | apply Kd.R_drew)); exact HO694.out) hb); have n1_ := Aside0.mk (Kd.R_below (by (with_reducible repeat (first | apply Kd.R_alloc | apply Kd.R_drewN | apply Kd.R_drew)); exact HO698.out) hb); have n2_ := Aside0.mk (below_step (by repeat (first | (with_reducible first | exact HB.out | apply below_alloc | apply pw_below_drewN | apply below_drew1) | exact HB.out)) hb); have n3_ := Aside0.mk (hbox); have n4_ := Aside0.mk ((by rw [hg]; exact (below_size (by repeat (first | (with_reducible first | exact HB.out | apply below_alloc | apply pw_below_drewN | apply below_drew1) | exact HB.out))) : w.heap.size ≤ gb699)); have n5_ := Aside0.mk ((by rw [hg]; exact (below_size (by repeat (first | (with_reducible first | exact HB.out | apply below_alloc | apply pw_below_drewN | apply below_drew1) | exact HB.out))) : w.heap.size ≤ gb699)); clear HO694; clear HO698; clear HB; have HO694 := n0_; have HO698 := n1_; have HB := n2_; have BK699 := n3_; have GW699 := n4_; have GE699 := n5_; clear n0_ n1_ n2_ n3_ n4_ n5_; clear hb hbox hg; have hcz12_0 : w11.cell? ⟨gb699, 0, none⟩ = some (.int .i64 0) := (blk_cell BK699.out 0).trans rfl; have hcz12_1 : w11.cell? ⟨gb699, 1, none⟩ = some (.int .i64 0) := (blk_cell BK699.out 1).trans rfl; have hcz12_2 : w11.cell? ⟨gb699, 2, none⟩ = some (.int .i64 0) := (blk_cell BK699.out 2).trans rfl; have hfz12_0 := blk_frozen BK699.out 0; have hfz12_1 := blk_frozen BK699.out 1; have hfz12_2 := blk_frozen BK699.out 2) | ((with_reducible refine gate_dst (N := 7) rfl ?_); (try (refine gate_guard (by rfl) ?_; dsimp only)); refine box_event ?hg (N := 7) ?hd (cs := #[.int .i64 0, .int .i64 0, .int .i64 0]) (t := 28) ?hr ?_; (case hd => rfl); (case hg => rfl); (case hr => first | (go_simp; done) | (go_simp; rfl)); intro gb700 hg w13 hbox hb; have n0_ := Aside0.mk (Kd.R_below (by (with_reducible repeat (first | apply Kd.R_alloc | apply Kd.R_drewN | apply Kd.R_drew)); exact (Kd.R_mono (Kd.R_far (p := ⟨gb699, 2, none⟩) (Kd.R_far (p := ⟨gb699, 1, none⟩) (Kd.R_far (p := ⟨gb699, 0, none⟩) (Kd.R_types HO694.out BK699.out (by decide)) (fun _ hk => hk.2) (.int .i64 2)) (fun _ hk => hk.2) (.int .i64 (wrap64 (1 + t695)))) (fun _ hk => hk.2) (.int .i64 0)) (fun _ h_ => h_.1))) hb); have n1_ := Aside0.mk (Kd.R_below (by (with_reducible repeat (first | apply Kd.R_alloc | apply Kd.R_drewN | apply Kd.R_drew)); exact (Kd.R_mono (Kd.R_far (p := ⟨gb699, 2, none⟩) (Kd.R_far (p := ⟨gb699, 1, none⟩) (Kd.R_far (p := ⟨gb699, 0, none⟩) (Kd.R_types HO698.out BK699.out (by decide)) (fun _ hk => hk.2) (.int .i64 2)) (fun _ hk => hk.2) (.int .i64 (wrap64 (1 + t695)))) (fun _ hk => hk.2) (.int .i64 0)) (fun _ h_ => h_.1))) hb); have n2_ := Aside0.mk (blk_below (g := gb699) (o := .cells #[.int .i64 2, .int .i64 (wrap64 (1 + t695)), .int .i64 0] 28 (0, 0)) (by (with_reducible repeat (first | refine blk_drewN ?_ _ | refine blk_drew ?_ | refine blk_alloc ?_ _)); refine blk_put (cs := #[.int .i64 2, .int .i64 (wrap64 (1 + t695)), .int .i64 0]) ?_ 2 _ rfl; (with_reducible repeat (first | refine blk_drewN ?_ _ | refine blk_drew ?_ | refine blk_alloc ?_ _)); refine blk_put (cs := #[.int .i64 2, .int .i64 0, .int .i64 0]) ?_ 1 _ rfl; (with_reducible repeat (first | refine blk_drewN ?_ _ | refine blk_drew ?_ | refine blk_alloc ?_ _)); refine blk_put (cs := #[.int .i64 0, .int .i64 0, .int .i64 0]) ?_ 0 _ rfl; (with_reducible repeat (first | refine blk_drewN ?_ _ | refine blk_drew ?_ | refine blk_alloc ?_ _)); exact BK699.out) hb); have n3_ := Aside0.mk (below_step (by repeat (first | (with_reducible first | exact HB.out | apply below_alloc | apply pw_below_drewN | apply below_drew1 | refine below_set ?_ GE699.out) | exact HB.out)) hb); have n4_ := Aside0.mk (hbox); have n5_ := Aside0.mk ((by rw [hg]; exact (below_size (by repeat (first | (with_reducible first | exact HB.out | apply below_alloc | apply pw_below_drewN | apply below_drew1 | refine below_set ?_ GE699.out) | exact HB.out))) : w.heap.size ≤ gb700)); have n6_ := Aside0.mk ((by rw [hg]; exact (below_size (by repeat (first | (with_reducible first | exact HB.out | apply below_alloc | apply pw_below_drewN | apply below_drew1 | refine below_set ?_ GE699.out) | exact HB.out))) : w.heap.size ≤ gb700)); have n7_ := Aside0.mk ((by rw [hg]; exact Nat.ne_of_lt (blk_lt (g := gb699) (o := .cells #[.int .i64 2, .int .i64 (wrap64 (1 + t695)), .int .i64 0] 28 (0, 0)) (by (with_reducible repeat (first | refine blk_drewN ?_ _ | refine blk_drew ?_ | refine blk_alloc ?_ _)); refine blk_put (cs := #[.int .i64 2, .int .i64 (wrap64 (1 + t695)), .int .i64 0]) ?_ 2 _ rfl; (with_reducible repeat (first | refine blk_drewN ?_ _ | refine blk_drew ?_ | refine blk_alloc ?_ _)); refine blk_put (cs := #[.int .i64 2, .int .i64 0, .int .i64 0]) ?_ 1 _ rfl; (with_reducible repeat (first | refine blk_drewN ?_ _ | refine blk_drew ?_ | refine blk_alloc ?_ _)); refine blk_put (cs := #[.int .i64 0, .int .i64 0, .int .i64 0]) ?_ 0 _ rfl; (with_reducible repeat (first | refine blk_drewN ?_ _ | refine blk_drew ?_ | refine blk_alloc ?_ _)); exact BK699.out)) : gb699 ≠ gb700)); have n8_ := Aside0.mk ((by rw [hg]; exact Nat.ne_of_gt (blk_lt (g := gb699) (o := .cells #[.int .i64 2, .int .i64 (wrap64 (1 + t695)), .int .i64 0] 28 (0, 0)) (by (with_reducible repeat (first | refine blk_drewN ?_ _ | refine blk_drew ?_ | refine blk_alloc ?_ _)); refine blk_put (cs := #[.int .i64 2, .int .i64 (wrap64 (1 + t695)), .int .i64 0]) ?_ 2 _ rfl; (with_reducible repeat (first | refine blk_drewN ?_ _ | refine blk_drew ?_ | refine blk_alloc ?_ _)); refine blk_put (cs := #[.int .i64 2, .int .i64 0, .int .i64 0]) ?_ 1 _ rfl; (with_reducible repeat (first | refine blk_drewN ?_ _ | refine blk_drew ?_ | refine blk_alloc ?_ _)); refine blk_put (cs := #[.int .i64 0, .int .i64 0, .int .i64 0]) ?_ 0 _ rfl; (with_reducible repeat (first | refine blk_drewN ?_ _ | refine blk_drew ?_ | refine blk_alloc ?_ _)); exact BK699.out)) : gb700 ≠ gb699)); clear HO694; clear HO698; clear BK699; clear HB; have HO694 := n0_; have HO698 := n1_; have BK699 := n2_; have HB := n3_; have BK700 := n4_; have GW700 := n5_; have GE700 := n6_; have NB699_700 := n7_; have NB700_699 := n8_; clear n0_ n1_ n2_ n3_ n4_ n5_ n6_ n7_ n8_; clear hb hbox hg; have hnb14 := NB700_699.out; have hnc14 := NB699_700.out; have hcz15_0 : w13.cell? ⟨gb700, 0, none⟩ = some (.int .i64 0) := (blk_cell BK700.out 0).trans rfl; have hcz15_1 : w13.cell? ⟨gb700, 1, none⟩ = some (.int .i64 0) := (blk_cell BK700.out 1).trans rfl; have hcz15_2 : w13.cell? ⟨gb700, 2, none⟩ = some (.int .i64 0) := (blk_cell BK700.out 2).trans rfl; have hfz15_0 := blk_frozen BK700.out 0; have hfz15_1 := blk_frozen BK700.out 1; have hfz15_2 := blk_frozen BK700.out 2))
    (try simp only [Act.put, List.setIfInBounds_toArray, List.set_cons_zero, List.set_cons_succ])
    go_cut [51] (fun v51 wc => ∃ (kq : Nat) (x51_5 : Bool), v51 = .bool x51_5 ∧ Aside0 (laws_FnLru.j0 kq t692 (wrap64 (1 + t695)) x51_5 2 (wrap64 (1 + t695)) 0 2 (wrap64 ((wrap64 (1 + t695)) + 1)) 0 = some true) ∧ Aside0 (kq ≤ k) ∧ Aside0 (Kd.R Kd.string 9 wc w.heap.size (fun _ => True) (.slice Ao9 t692.length co9) t692) ∧ Aside0 (wc.heap[gb699]? = some (.cells #[.int .i64 2, .int .i64 (wrap64 (1 + t695)), .int .i64 0] 28 (0, 0))) ∧ Aside0 (wc.heap[gb700]? = some (.cells #[.int .i64 2, .int .i64 (wrap64 ((wrap64 (1 + t695)) + 1)), .int .i64 0] 28 (0, 0))) ∧ Aside0 (Below w.heap.size w wc))
    case first =>
      have H := HC6.out
      clear HC6
      by_cases c16 : (t696.length : Int) = (t692.length : Int)
      · rw [if_pos c16] at H
        have c16b0 : ((t696.length : Int) == (t692.length : Int)) = true := beq_iff_eq.mpr c16
        have c16b1 : ((t696.length : Int) != (t692.length : Int)) = false := bne_eq_false_iff_eq.mpr c16
        have c16b2 : (t696.length == t692.length) = true := by first | simpa using c16 | (simp at c16 ⊢; omega)
        clear c16
        (first | rw [c16b0] | (simp only [i64_w, i32_w]; rw [c16b0]) | skip)
        replace H := Option.bind_eq_some_iff.mp H
        obtain ⟨⟨t701, t702, t703, t704⟩, A170, H⟩ := H
        replace H : ((impl_MissesAt.f k t696 (wrap64 (1 + t695))).bind fun t705 => (if t703 = t705 then ((impl_CountOf.f k 2 (wrap64 (1 + t695)) 0 t692).bind fun bt706 => (laws_FnLru.j0 k t692 (wrap64 (1 + t695)) (bt706.1 != (t692.length : Int)) 2 (wrap64 (1 + t695)) 0 2 (wrap64 ((wrap64 (1 + t695)) + 1)) 0)) else (laws_FnLru.j0 k t692 (wrap64 (1 + t695)) true 2 (wrap64 (1 + t695)) 0 2 (wrap64 ((wrap64 (1 + t695)) + 1)) 0))) = some true := H
        have A17 := Aside0.mk A170
        clear A170
        replace H := Option.bind_eq_some_iff.mp H
        obtain ⟨t705, A180, H⟩ := H
        replace H : (if t703 = t705 then ((impl_CountOf.f k 2 (wrap64 (1 + t695)) 0 t692).bind fun bt706 => (laws_FnLru.j0 k t692 (wrap64 (1 + t695)) (bt706.1 != (t692.length : Int)) 2 (wrap64 (1 + t695)) 0 2 (wrap64 ((wrap64 (1 + t695)) + 1)) 0)) else (laws_FnLru.j0 k t692 (wrap64 (1 + t695)) true 2 (wrap64 (1 + t695)) 0 2 (wrap64 ((wrap64 (1 + t695)) + 1)) 0)) = some true := H
        have A18 := Aside0.mk A180
        clear A180
        by_cases c19 : t703 = t705
        · rw [if_pos c19] at H
          have c19b0 : (t703 == t705) = true := beq_iff_eq.mpr c19
          have c19b1 : (t703 != t705) = false := bne_eq_false_iff_eq.mpr c19
          clear c19
          replace H := Option.bind_eq_some_iff.mp H
          obtain ⟨⟨t706, t707, t708, t709⟩, A200, H⟩ := H
          replace H : (laws_FnLru.j0 k t692 (wrap64 (1 + t695)) (t706 != (t692.length : Int)) 2 (wrap64 (1 + t695)) 0 2 (wrap64 ((wrap64 (1 + t695)) + 1)) 0) = some true := H
          have A20 := Aside0.mk A200
          clear A200
          have H' := Aside0.mk H
          clear H
          obtain ⟨Ao21, co21, eo21⟩ := Kd.R_slice HO698.out
          subst eo21
          have hnb22 := NB699_700.out
          have hnc22 := NB700_699.out
          have hcz23_0 : w13.cell? ⟨gb699, 0, none⟩ = some (.int .i64 2) := (blk_cell BK699.out 0).trans rfl
          have hcz23_1 : w13.cell? ⟨gb699, 1, none⟩ = some (.int .i64 (wrap64 (1 + t695))) := (blk_cell BK699.out 1).trans rfl
          have hcz23_2 : w13.cell? ⟨gb699, 2, none⟩ = some (.int .i64 0) := (blk_cell BK699.out 2).trans rfl
          have hfz23_0 := blk_frozen BK699.out 0
          have hfz23_1 := blk_frozen BK699.out 1
          have hfz23_2 := blk_frozen BK699.out 2
          go_wp2_with (first | (go_at_call 25; (with_reducible refine (impl_CountOf.calls k 2 (wrap64 (1 + t695)) 0 _ _ t692 t701 t702 t703 t704 _ ?side1 ?side2 A17.out).mono ?_); (case side1 => refine (Kd.R_reads' (e := 9) (base := w.heap.size) (ok := fun k_ => True) (n := t692.length) (c := co9) ?_).2.2; exact (by (with_reducible repeat (first | apply Kd.R_alloc | apply Kd.R_drewN | apply Kd.R_drew)); exact (Kd.R_mono (Kd.R_far (p := ⟨gb700, 2, none⟩) (Kd.R_far (p := ⟨gb700, 1, none⟩) (Kd.R_far (p := ⟨gb700, 0, none⟩) (Kd.R_types HO694.out BK700.out (by decide)) (fun _ hk => hk.2) (.int .i64 2)) (fun _ hk => hk.2) (.int .i64 (wrap64 ((wrap64 (1 + t695)) + 1)))) (fun _ hk => hk.2) (.int .i64 0)) (fun _ h_ => h_.1)))); (case side2 => exact (Kd.R_reads' HO694.out).2.1); rintro e w24 ⟨rfl, hb⟩; have n0_ := Aside0.mk (Kd.R_below (by (with_reducible repeat (first | apply Kd.R_alloc | apply Kd.R_drewN | apply Kd.R_drew)); exact (Kd.R_mono (Kd.R_far (p := ⟨gb700, 2, none⟩) (Kd.R_far (p := ⟨gb700, 1, none⟩) (Kd.R_far (p := ⟨gb700, 0, none⟩) (Kd.R_types HO694.out BK700.out (by decide)) (fun _ hk => hk.2) (.int .i64 2)) (fun _ hk => hk.2) (.int .i64 (wrap64 ((wrap64 (1 + t695)) + 1)))) (fun _ hk => hk.2) (.int .i64 0)) (fun _ h_ => h_.1))) hb); have n1_ := Aside0.mk (Kd.R_below (by (with_reducible repeat (first | apply Kd.R_alloc | apply Kd.R_drewN | apply Kd.R_drew)); exact (Kd.R_mono (Kd.R_far (p := ⟨gb700, 2, none⟩) (Kd.R_far (p := ⟨gb700, 1, none⟩) (Kd.R_far (p := ⟨gb700, 0, none⟩) (Kd.R_types HO698.out BK700.out (by decide)) (fun _ hk => hk.2) (.int .i64 2)) (fun _ hk => hk.2) (.int .i64 (wrap64 ((wrap64 (1 + t695)) + 1)))) (fun _ hk => hk.2) (.int .i64 0)) (fun _ h_ => h_.1))) hb); have n2_ := Aside0.mk (blk_below (g := gb699) (o := .cells #[.int .i64 2, .int .i64 (wrap64 (1 + t695)), .int .i64 0] 28 (0, 0)) (by (with_reducible repeat (first | refine blk_drewN ?_ _ | refine blk_drew ?_ | refine blk_alloc ?_ _)); refine blk_far ?_ NB699_700.out _; (with_reducible repeat (first | refine blk_drewN ?_ _ | refine blk_drew ?_ | refine blk_alloc ?_ _)); refine blk_far ?_ NB699_700.out _; (with_reducible repeat (first | refine blk_drewN ?_ _ | refine blk_drew ?_ | refine blk_alloc ?_ _)); refine blk_far ?_ NB699_700.out _; (with_reducible repeat (first | refine blk_drewN ?_ _ | refine blk_drew ?_ | refine blk_alloc ?_ _)); exact BK699.out) hb); have n3_ := Aside0.mk (blk_below (g := gb700) (o := .cells #[.int .i64 2, .int .i64 (wrap64 ((wrap64 (1 + t695)) + 1)), .int .i64 0] 28 (0, 0)) (by (with_reducible repeat (first | refine blk_drewN ?_ _ | refine blk_drew ?_ | refine blk_alloc ?_ _)); refine blk_put (cs := #[.int .i64 2, .int .i64 (wrap64 ((wrap64 (1 + t695)) + 1)), .int .i64 0]) ?_ 2 _ rfl; (with_reducible repeat (first | refine blk_drewN ?_ _ | refine blk_drew ?_ | refine blk_alloc ?_ _)); refine blk_put (cs := #[.int .i64 2, .int .i64 0, .int .i64 0]) ?_ 1 _ rfl; (with_reducible repeat (first | refine blk_drewN ?_ _ | refine blk_drew ?_ | refine blk_alloc ?_ _)); refine blk_put (cs := #[.int .i64 0, .int .i64 0, .int .i64 0]) ?_ 0 _ rfl; (with_reducible repeat (first | refine blk_drewN ?_ _ | refine blk_drew ?_ | refine blk_alloc ?_ _)); exact BK700.out) hb); have n4_ := Aside0.mk (below_step (by repeat (first | (with_reducible first | exact HB.out | apply below_alloc | apply pw_below_drewN | apply below_drew1 | refine below_set ?_ GE699.out | refine below_set ?_ GE700.out) | exact HB.out)) hb); clear HO694; clear HO698; clear BK699; clear BK700; clear HB; have HO694 := n0_; have HO698 := n1_; have BK699 := n2_; have BK700 := n3_; have HB := n4_; clear n0_ n1_ n2_ n3_ n4_; (try clear hb); (try clear hb2); (try clear hk); (try clear hi)) | (go_at_call 39; (with_reducible refine (impl_MissesAt.calls k _ _ t696 (wrap64 (1 + t695)) t705 _ ?side1 ?side2 A18.out).mono ?_); (case side1 => repeat (first | exact (Kd.R_reads' HO698.out).2.2 | (with_reducible refine Kd.C_alloc ?_ _) | (with_reducible refine Kd.C_drewN ?_ _) | (with_reducible refine Kd.C_drew ?_))); (case side2 => exact (Kd.R_reads' HO698.out).2.1); rintro e w' ⟨rfl, ⟨nd, rfl⟩⟩; have hcz25_0 : w24.cell? ⟨gb699, 0, none⟩ = some (.int .i64 2) := (blk_cell BK699.out 0).trans rfl; have hcz25_1 : w24.cell? ⟨gb699, 1, none⟩ = some (.int .i64 (wrap64 (1 + t695))) := (blk_cell BK699.out 1).trans rfl; have hcz25_2 : w24.cell? ⟨gb699, 2, none⟩ = some (.int .i64 0) := (blk_cell BK699.out 2).trans rfl; have hfz25_0 := blk_frozen BK699.out 0; have hfz25_1 := blk_frozen BK699.out 1; have hfz25_2 := blk_frozen BK699.out 2) | (go_at_call 25; (with_reducible refine (impl_CountOf.calls k 2 (wrap64 (1 + t695)) 0 _ _ t692 t706 t707 t708 t709 _ ?side1 ?side2 A20.out).mono ?_); (case side1 => repeat (first | exact (Kd.R_reads' HO694.out).2.2 | (with_reducible refine Kd.C_alloc ?_ _) | (with_reducible refine Kd.C_drewN ?_ _) | (with_reducible refine Kd.C_drew ?_))); (case side2 => exact (Kd.R_reads' HO694.out).2.1); rintro e w26 ⟨rfl, hb⟩; have n0_ := Aside0.mk (Kd.R_below (by (with_reducible repeat (first | apply Kd.R_alloc | apply Kd.R_drewN | apply Kd.R_drew)); exact HO694.out) hb); have n1_ := Aside0.mk (Kd.R_below (by (with_reducible repeat (first | apply Kd.R_alloc | apply Kd.R_drewN | apply Kd.R_drew)); exact HO698.out) hb); have n2_ := Aside0.mk (blk_below (g := gb699) (o := .cells #[.int .i64 2, .int .i64 (wrap64 (1 + t695)), .int .i64 0] 28 (0, 0)) (by (with_reducible repeat (first | refine blk_drewN ?_ _ | refine blk_drew ?_ | refine blk_alloc ?_ _)); exact BK699.out) hb); have n3_ := Aside0.mk (blk_below (g := gb700) (o := .cells #[.int .i64 2, .int .i64 (wrap64 ((wrap64 (1 + t695)) + 1)), .int .i64 0] 28 (0, 0)) (by (with_reducible repeat (first | refine blk_drewN ?_ _ | refine blk_drew ?_ | refine blk_alloc ?_ _)); exact BK700.out) hb); have n4_ := Aside0.mk (below_step (by repeat (first | (with_reducible first | exact HB.out | apply below_alloc | apply pw_below_drewN | apply below_drew1 | refine below_set ?_ GE699.out | refine below_set ?_ GE700.out) | exact HB.out)) hb); clear HO694; clear HO698; clear BK699; clear BK700; clear HB; have HO694 := n0_; have HO698 := n1_; have BK699 := n2_; have BK700 := n3_; have HB := n4_; clear n0_ n1_ n2_ n3_ n4_; (try clear hb); (try clear hb2); (try clear hk); (try clear hi)))
          go_meet
          case rel => exact ⟨_, ((t706 != (t692.length : Int))), (by first | rfl | (simp; done) | (simp [*]; done)), H', ⟨by first | omega | exact Nat.le_refl _⟩, ⟨by (with_reducible repeat (first | apply Kd.R_alloc | apply Kd.R_drewN | apply Kd.R_drew)); exact HO694.out⟩, ⟨by (with_reducible repeat (first | refine blk_drewN ?_ _ | refine blk_drew ?_ | refine blk_alloc ?_ _)); exact BK699.out⟩, ⟨by (with_reducible repeat (first | refine blk_drewN ?_ _ | refine blk_drew ?_ | refine blk_alloc ?_ _)); exact BK700.out⟩, ⟨by repeat (first | (with_reducible first | exact HB.out | apply below_alloc | apply pw_below_drewN | apply below_drew1 | refine below_set ?_ GE699.out | refine below_set ?_ GE700.out) | exact HB.out)⟩⟩
        · rw [if_neg c19] at H
          exact absurd H (laws_FnLru.j0_no _ _ _ _ _ _ _ _ _)
      · rw [if_neg c16] at H
        have c16b0 : ((t696.length : Int) == (t692.length : Int)) = false := beq_eq_false_iff_ne.mpr c16
        have c16b1 : ((t696.length : Int) != (t692.length : Int)) = true := bne_iff_ne.mpr c16
        have c16b2 : (t696.length == t692.length) = false := by first | simpa using c16 | (simp at c16 ⊢; omega)
        (first | rw [c16b0] | (simp only [i64_w, i32_w]; rw [c16b0]) | skip)
        have H' := Aside0.mk H
        clear H
        obtain ⟨Ao31, co31, eo31⟩ := Kd.R_slice HO698.out
        subst eo31
        go_wp2
        go_meet
        case rel => exact ⟨_, (true), (by first | rfl | (simp; done) | (simp [*]; done)), H', ⟨by first | omega | exact Nat.le_refl _⟩, ⟨by (with_reducible repeat (first | apply Kd.R_alloc | apply Kd.R_drewN | apply Kd.R_drew)); exact Kd.R_mono (Kd.R_far (p := ⟨gb700, 2, none⟩) (Kd.R_far (p := ⟨gb700, 1, none⟩) (Kd.R_far (p := ⟨gb700, 0, none⟩) (Kd.R_types HO694.out BK700.out (by decide)) (fun _ hk => hk.2) (.int .i64 2)) (fun _ hk => hk.2) (.int .i64 (wrap64 ((wrap64 (1 + t695)) + 1)))) (fun _ hk => hk.2) (.int .i64 0)) (fun _ hk => trivial)⟩, ⟨by (with_reducible repeat (first | refine blk_drewN ?_ _ | refine blk_drew ?_ | refine blk_alloc ?_ _)); refine blk_far ?_ NB699_700.out _; (with_reducible repeat (first | refine blk_drewN ?_ _ | refine blk_drew ?_ | refine blk_alloc ?_ _)); refine blk_far ?_ NB699_700.out _; (with_reducible repeat (first | refine blk_drewN ?_ _ | refine blk_drew ?_ | refine blk_alloc ?_ _)); refine blk_far ?_ NB699_700.out _; (with_reducible repeat (first | refine blk_drewN ?_ _ | refine blk_drew ?_ | refine blk_alloc ?_ _)); exact BK699.out⟩, ⟨by (with_reducible repeat (first | refine blk_drewN ?_ _ | refine blk_drew ?_ | refine blk_alloc ?_ _)); refine blk_put (cs := #[.int .i64 2, .int .i64 (wrap64 ((wrap64 (1 + t695)) + 1)), .int .i64 0]) ?_ 2 _ rfl; (with_reducible repeat (first | refine blk_drewN ?_ _ | refine blk_drew ?_ | refine blk_alloc ?_ _)); refine blk_put (cs := #[.int .i64 2, .int .i64 0, .int .i64 0]) ?_ 1 _ rfl; (with_reducible repeat (first | refine blk_drewN ?_ _ | refine blk_drew ?_ | refine blk_alloc ?_ _)); refine blk_put (cs := #[.int .i64 0, .int .i64 0, .int .i64 0]) ?_ 0 _ rfl; (with_reducible repeat (first | refine blk_drewN ?_ _ | refine blk_drew ?_ | refine blk_alloc ?_ _)); exact BK700.out⟩, ⟨by repeat (first | (with_reducible first | exact HB.out | apply below_alloc | apply pw_below_drewN | apply below_drew1 | refine below_set ?_ GE699.out | refine below_set ?_ GE700.out) | exact HB.out)⟩⟩
    case rest =>
      clear HC6
      try clear c1
      try clear c2
      try clear c2b0
      try clear c2b1
      try clear p2
      try clear c3
      try clear p6
      try clear c8
      try clear c14
      try clear c15
      try clear c16
      try clear c16b0
      try clear c16b1
      try clear c16b2
      try clear c19
      try clear c19b0
      try clear c19b1
      try clear c22
      try clear c28
      try clear hcz12_0
      try clear hcz12_1
      try clear hcz12_2
      try clear hcz15_0
      try clear hcz15_1
      try clear hcz15_2
      try clear hcz23_0
      try clear hcz23_1
      try clear hcz23_2
      try clear hcz25_0
      try clear hcz25_1
      try clear hcz25_2
      try clear hcz29_0
      try clear hcz29_1
      try clear hcz29_2
      try clear hfz12_0
      try clear hfz12_1
      try clear hfz12_2
      try clear hfz15_0
      try clear hfz15_1
      try clear hfz15_2
      try clear hfz23_0
      try clear hfz23_1
      try clear hfz23_2
      try clear hfz25_0
      try clear hfz25_1
      try clear hfz25_2
      try clear hfz29_0
      try clear hfz29_1
      try clear hfz29_2
      obtain ⟨kq, x51_5, rfl, HA, HJ5, HO_3, BK699, BK700, HB⟩ := hcut
      cases kq with
      | zero => exact absurd HA.out (by simp [laws_FnLru.j0])
      | succ kj5 =>
        have H := HA.out
        clear HA
        simp only [laws_FnLru.j0] at H
        by_cases c32 : x51_5 = true
        · subst c32
          have H1 : (some false) = some true := by rw [if_pos rfl] at H; exact H
          exact absurd H1 (by simp)
        · replace c32 := Bool.eq_false_iff.mpr c32
          subst c32
          have H1 : ((impl_Holds.f kj5 2 (wrap64 ((wrap64 (1 + t695)) + 1)) 0 t692).bind fun t710 => ((impl_Holds.f kj5 2 (wrap64 (1 + t695)) 0 t692).bind fun t713 => ((impl_Distinct.f kj5 t692).bind fun t716 => (if (t716.length : Int) > (wrap64 (1 + t695)) then (laws_FnLru.j1 kj5 t692 t710 t713 (wrap64 (1 + t695))) else (laws_FnLru.j1 kj5 t692 t710 t713 (t716.length : Int)))))) = some true := by rw [if_neg (show ¬ (false = true) by decide)] at H; exact H
          clear H
          have H := H1
          clear H1
          replace H := Option.bind_eq_some_iff.mp H
          obtain ⟨t710, A330, H⟩ := H
          replace H : ((impl_Holds.f kj5 2 (wrap64 (1 + t695)) 0 t692).bind fun t713 => ((impl_Distinct.f kj5 t692).bind fun t716 => (if (t716.length : Int) > (wrap64 (1 + t695)) then (laws_FnLru.j1 kj5 t692 t710 t713 (wrap64 (1 + t695))) else (laws_FnLru.j1 kj5 t692 t710 t713 (t716.length : Int))))) = some true := H
          have A33 := Aside0.mk A330
          clear A330
          replace H := Option.bind_eq_some_iff.mp H
          obtain ⟨t713, A340, H⟩ := H
          replace H : ((impl_Distinct.f kj5 t692).bind fun t716 => (if (t716.length : Int) > (wrap64 (1 + t695)) then (laws_FnLru.j1 kj5 t692 t710 t713 (wrap64 (1 + t695))) else (laws_FnLru.j1 kj5 t692 t710 t713 (t716.length : Int)))) = some true := H
          have A34 := Aside0.mk A340
          clear A340
          replace H := Option.bind_eq_some_iff.mp H
          obtain ⟨t716, A350, H⟩ := H
          replace H : (if (t716.length : Int) > (wrap64 (1 + t695)) then (laws_FnLru.j1 kj5 t692 t710 t713 (wrap64 (1 + t695))) else (laws_FnLru.j1 kj5 t692 t710 t713 (t716.length : Int))) = some true := H
          have A35 := Aside0.mk A350
          clear A350
          have HC36 := Aside0.mk H
          clear H
          have hnb37 := NB700_699.out
          have hnc37 := NB699_700.out
          have hcz38_0 : wc.cell? ⟨gb700, 0, none⟩ = some (.int .i64 2) := (blk_cell BK700.out 0).trans rfl
          have hcz38_1 : wc.cell? ⟨gb700, 1, none⟩ = some (.int .i64 (wrap64 ((wrap64 (1 + t695)) + 1))) := (blk_cell BK700.out 1).trans rfl
          have hcz38_2 : wc.cell? ⟨gb700, 2, none⟩ = some (.int .i64 0) := (blk_cell BK700.out 2).trans rfl
          have hfz38_0 := blk_frozen BK700.out 0
          have hfz38_1 := blk_frozen BK700.out 1
          have hfz38_2 := blk_frozen BK700.out 2
          go_upto_if 63 with (first | ((with_reducible refine gate_callee (f := 17) rfl ?_); refine goesL_ (some 54) rfl rfl Try.func17 (by kernel_rfl) rfl #[.agg #[.int .i64 2, .int .i64 (wrap64 ((wrap64 (1 + t695)) + 1)), .int .i64 0], .slice Ao9 t692.length co9] rfl (by (try simp only [List.map_toArray, List.map_cons, List.map_nil]); first | done | rfl | (simp only [List.length_drop, List.length_take]; rfl)) ?_; (with_reducible refine (impl_Holds.calls kj5 2 (wrap64 ((wrap64 (1 + t695)) + 1)) 0 _ _ t692 t710 _ ?side1 ?side2 A33.out).mono ?_); (case side1 => repeat (first | exact (Kd.R_reads' HO_3.out).2.2 | (with_reducible refine Kd.C_alloc ?_ _) | (with_reducible refine Kd.C_drewN ?_ _) | (with_reducible refine Kd.C_drew ?_))); (case side2 => exact (Kd.R_reads' HO_3.out).2.1); rintro e w39 ⟨v711, rfl, ho0, hb⟩; refine ⟨_, rfl, ?_⟩; have n0_ := Aside0.mk (Kd.R_elder' (by (with_reducible repeat (first | apply Kd.R_alloc | apply Kd.R_drewN | apply Kd.R_drew)); exact HO_3.out) (Kd.R_base ho0) hb); have n1_ := Aside0.mk (Kd.R_lower (Kd.R_new' ho0 (Kd.R_lt (by (with_reducible repeat (first | apply Kd.R_alloc | apply Kd.R_drewN | apply Kd.R_drew)); exact HO_3.out))) (below_size (by repeat (first | (with_reducible first | exact HB.out | apply below_alloc | apply pw_below_drewN | apply below_drew1 | refine below_set ?_ GE699.out | refine below_set ?_ GE700.out) | exact HB.out)))); have n2_ := Aside0.mk (blk_below (g := gb699) (o := .cells #[.int .i64 2, .int .i64 (wrap64 (1 + t695)), .int .i64 0] 28 (0, 0)) (by (with_reducible repeat (first | refine blk_drewN ?_ _ | refine blk_drew ?_ | refine blk_alloc ?_ _)); exact BK699.out) hb); have n3_ := Aside0.mk (blk_below (g := gb700) (o := .cells #[.int .i64 2, .int .i64 (wrap64 ((wrap64 (1 + t695)) + 1)), .int .i64 0] 28 (0, 0)) (by (with_reducible repeat (first | refine blk_drewN ?_ _ | refine blk_drew ?_ | refine blk_alloc ?_ _)); exact BK700.out) hb); have n4_ := Aside0.mk (below_step (by repeat (first | (with_reducible first | exact HB.out | apply below_alloc | apply pw_below_drewN | apply below_drew1 | refine below_set ?_ GE699.out | refine below_set ?_ GE700.out) | exact HB.out)) hb); clear HO_3; clear BK699; clear BK700; clear HB; have HO_3 := n0_; have HO712 := n1_; have BK699 := n2_; have BK700 := n3_; have HB := n4_; clear n0_ n1_ n2_ n3_ n4_; (try clear hb); (try clear hb2); (try clear hk); (try clear hi); (try clear ho0); have hcz40_0 : w39.cell? ⟨gb699, 0, none⟩ = some (.int .i64 2) := (blk_cell BK699.out 0).trans rfl; have hcz40_1 : w39.cell? ⟨gb699, 1, none⟩ = some (.int .i64 (wrap64 (1 + t695))) := (blk_cell BK699.out 1).trans rfl; have hcz40_2 : w39.cell? ⟨gb699, 2, none⟩ = some (.int .i64 0) := (blk_cell BK699.out 2).trans rfl; have hfz40_0 := blk_frozen BK699.out 0; have hfz40_1 := blk_frozen BK699.out 1; have hfz40_2 := blk_frozen BK699.out 2) | ((with_reducible refine gate_callee (f := 17) rfl ?_); refine goesL_ (some 57) rfl rfl Try.func17 (by kernel_rfl) rfl #[.agg #[.int .i64 2, .int .i64 (wrap64 (1 + t695)), .int .i64 0], .slice Ao9 t692.length co9] rfl (by (try simp only [List.map_toArray, List.map_cons, List.map_nil]); first | done | rfl | (simp only [List.length_drop, List.length_take]; rfl)) ?_; (with_reducible refine (impl_Holds.calls kj5 2 (wrap64 (1 + t695)) 0 _ _ t692 t713 _ ?side1 ?side2 A34.out).mono ?_); (case side1 => repeat (first | exact (Kd.R_reads' HO_3.out).2.2 | (with_reducible refine Kd.C_alloc ?_ _) | (with_reducible refine Kd.C_drewN ?_ _) | (with_reducible refine Kd.C_drew ?_))); (case side2 => exact (Kd.R_reads' HO_3.out).2.1); rintro e w41 ⟨v714, rfl, ho0, hb⟩; refine ⟨_, rfl, ?_⟩; have n0_ := Aside0.mk (Kd.R_elder' (by (with_reducible repeat (first | apply Kd.R_alloc | apply Kd.R_drewN | apply Kd.R_drew)); exact HO_3.out) (Kd.R_base ho0) hb); have n1_ := Aside0.mk (Kd.R_elder' (by (with_reducible repeat (first | apply Kd.R_alloc | apply Kd.R_drewN | apply Kd.R_drew)); exact HO712.out) (Kd.R_base ho0) hb); have n2_ := Aside0.mk (Kd.R_lower (Kd.R_new' (Kd.R_new' ho0 (Kd.R_lt (by (with_reducible repeat (first | apply Kd.R_alloc | apply Kd.R_drewN | apply Kd.R_drew)); exact HO_3.out))) (Kd.R_lt (by (with_reducible repeat (first | apply Kd.R_alloc | apply Kd.R_drewN | apply Kd.R_drew)); exact HO712.out))) (below_size (by repeat (first | (with_reducible first | exact HB.out | apply below_alloc | apply pw_below_drewN | apply below_drew1 | refine below_set ?_ GE699.out | refine below_set ?_ GE700.out) | exact HB.out)))); have n3_ := Aside0.mk (blk_below (g := gb699) (o := .cells #[.int .i64 2, .int .i64 (wrap64 (1 + t695)), .int .i64 0] 28 (0, 0)) (by (with_reducible repeat (first | refine blk_drewN ?_ _ | refine blk_drew ?_ | refine blk_alloc ?_ _)); exact BK699.out) hb); have n4_ := Aside0.mk (blk_below (g := gb700) (o := .cells #[.int .i64 2, .int .i64 (wrap64 ((wrap64 (1 + t695)) + 1)), .int .i64 0] 28 (0, 0)) (by (with_reducible repeat (first | refine blk_drewN ?_ _ | refine blk_drew ?_ | refine blk_alloc ?_ _)); exact BK700.out) hb); have n5_ := Aside0.mk (below_step (by repeat (first | (with_reducible first | exact HB.out | apply below_alloc | apply pw_below_drewN | apply below_drew1 | refine below_set ?_ GE699.out | refine below_set ?_ GE700.out) | exact HB.out)) hb); clear HO_3; clear HO712; clear BK699; clear BK700; clear HB; have HO_3 := n0_; have HO712 := n1_; have HO715 := n2_; have BK699 := n3_; have BK700 := n4_; have HB := n5_; clear n0_ n1_ n2_ n3_ n4_ n5_; (try clear hb); (try clear hb2); (try clear hk); (try clear hi); (try clear ho0)) | ((with_reducible refine gate_callee (f := 14) rfl ?_); refine goesL_ (some 59) rfl rfl Try.func14 (by kernel_rfl) rfl #[.slice Ao9 t692.length co9] rfl (by (try simp only [List.map_toArray, List.map_cons, List.map_nil]); first | done | rfl | (simp only [List.length_drop, List.length_take]; rfl)) ?_; (with_reducible refine (impl_Distinct.calls kj5 _ _ t692 t716 _ ?side1 ?side2 A35.out).mono ?_); (case side1 => repeat (first | exact (Kd.R_reads' HO_3.out).2.2 | (with_reducible refine Kd.C_alloc ?_ _) | (with_reducible refine Kd.C_drewN ?_ _) | (with_reducible refine Kd.C_drew ?_))); (case side2 => exact (Kd.R_reads' HO_3.out).2.1); rintro e w42 ⟨v717, rfl, ho0, hb⟩; refine ⟨_, rfl, ?_⟩; have n0_ := Aside0.mk (Kd.R_elder' (by (with_reducible repeat (first | apply Kd.R_alloc | apply Kd.R_drewN | apply Kd.R_drew)); exact HO_3.out) (Kd.R_base ho0) hb); have n1_ := Aside0.mk (Kd.R_elder' (by (with_reducible repeat (first | apply Kd.R_alloc | apply Kd.R_drewN | apply Kd.R_drew)); exact HO712.out) (Kd.R_base ho0) hb); have n2_ := Aside0.mk (Kd.R_elder' (by (with_reducible repeat (first | apply Kd.R_alloc | apply Kd.R_drewN | apply Kd.R_drew)); exact HO715.out) (Kd.R_base ho0) hb); have n3_ := Aside0.mk (Kd.R_lower (Kd.R_new' (Kd.R_new' (Kd.R_new' ho0 (Kd.R_lt (by (with_reducible repeat (first | apply Kd.R_alloc | apply Kd.R_drewN | apply Kd.R_drew)); exact HO_3.out))) (Kd.R_lt (by (with_reducible repeat (first | apply Kd.R_alloc | apply Kd.R_drewN | apply Kd.R_drew)); exact HO712.out))) (Kd.R_lt (by (with_reducible repeat (first | apply Kd.R_alloc | apply Kd.R_drewN | apply Kd.R_drew)); exact HO715.out))) (below_size (by repeat (first | (with_reducible first | exact HB.out | apply below_alloc | apply pw_below_drewN | apply below_drew1 | refine below_set ?_ GE699.out | refine below_set ?_ GE700.out) | exact HB.out)))); have n4_ := Aside0.mk (blk_below (g := gb699) (o := .cells #[.int .i64 2, .int .i64 (wrap64 (1 + t695)), .int .i64 0] 28 (0, 0)) (by (with_reducible repeat (first | refine blk_drewN ?_ _ | refine blk_drew ?_ | refine blk_alloc ?_ _)); exact BK699.out) hb); have n5_ := Aside0.mk (blk_below (g := gb700) (o := .cells #[.int .i64 2, .int .i64 (wrap64 ((wrap64 (1 + t695)) + 1)), .int .i64 0] 28 (0, 0)) (by (with_reducible repeat (first | refine blk_drewN ?_ _ | refine blk_drew ?_ | refine blk_alloc ?_ _)); exact BK700.out) hb); have n6_ := Aside0.mk (below_step (by repeat (first | (with_reducible first | exact HB.out | apply below_alloc | apply pw_below_drewN | apply below_drew1 | refine below_set ?_ GE699.out | refine below_set ?_ GE700.out) | exact HB.out)) hb); clear HO_3; clear HO712; clear HO715; clear BK699; clear BK700; clear HB; have HO_3 := n0_; have HO712 := n1_; have HO715 := n2_; have HO718 := n3_; have BK699 := n4_; have BK700 := n5_; have HB := n6_; clear n0_ n1_ n2_ n3_ n4_ n5_ n6_; (try clear hb); (try clear hb2); (try clear hk); (try clear hi); (try clear ho0); obtain ⟨Ao43, co43, eo43⟩ := Kd.R_slice HO718.out; subst eo43))
          (try simp only [Act.put, List.setIfInBounds_toArray, List.set_cons_zero, List.set_cons_succ])
          go_cut [10] (fun v10 wc => ∃ (kq : Nat) (x10_35 : Int), v10 = .int .i64 x10_35 ∧ Aside0 (laws_FnLru.j1 kq t692 t710 t713 x10_35 = some true) ∧ Aside0 (kq ≤ kj5) ∧ Aside0 (Kd.R Kd.string 9 wc w.heap.size (fun k_ => some k_ ≠ (v711 : Value).ownBlock ∧ some k_ ≠ (v714 : Value).ownBlock) (.slice Ao9 t692.length co9) t692) ∧ Aside0 (Kd.R Kd.string 9 wc w.heap.size (fun k_ => some k_ ≠ ((.slice Ao9 t692.length co9) : Value).ownBlock ∧ some k_ ≠ (v714 : Value).ownBlock) v711 t710) ∧ Aside0 (Kd.R Kd.string 9 wc w.heap.size (fun k_ => some k_ ≠ ((.slice Ao9 t692.length co9) : Value).ownBlock ∧ some k_ ≠ (v711 : Value).ownBlock) v714 t713) ∧ Aside0 (wc.heap[gb699]? = some (.cells #[.int .i64 2, .int .i64 (wrap64 (1 + t695)), .int .i64 0] 28 (0, 0))) ∧ Aside0 (wc.heap[gb700]? = some (.cells #[.int .i64 2, .int .i64 (wrap64 ((wrap64 (1 + t695)) + 1)), .int .i64 0] 28 (0, 0))) ∧ Aside0 (Below w.heap.size w wc))
          case first =>
            have H := HC36.out
            clear HC36
            by_cases c44 : (t716.length : Int) > (wrap64 (1 + t695))
            · rw [if_pos c44] at H
              have c44b0 : decide ((wrap64 (1 + t695)) < (t716.length : Int)) = true := decide_eq_true c44
              clear c44
              (first | rw [c44b0] | (simp only [i64_w, i32_w]; rw [c44b0]) | skip)
              have H' := Aside0.mk H
              clear H
              go_wp2
              go_meet
              case rel => exact ⟨_, ((wrap64 (1 + t695))), (by first | rfl | (simp; done) | (simp [*]; done)), H', ⟨by have := HJ5.out; first | omega | exact Nat.le_refl _⟩, ⟨by (with_reducible repeat (first | apply Kd.R_alloc | apply Kd.R_drewN | apply Kd.R_drew)); exact Kd.R_mono HO_3.out (fun _ hk => ⟨hk.1.1.2, hk.1.2⟩)⟩, ⟨by (with_reducible repeat (first | apply Kd.R_alloc | apply Kd.R_drewN | apply Kd.R_drew)); exact Kd.R_mono HO712.out (fun _ hk => ⟨hk.1.1.2, hk.1.2⟩)⟩, ⟨by (with_reducible repeat (first | apply Kd.R_alloc | apply Kd.R_drewN | apply Kd.R_drew)); exact Kd.R_mono HO715.out (fun _ hk => ⟨hk.1.1.2, hk.1.2⟩)⟩, ⟨by (with_reducible repeat (first | refine blk_drewN ?_ _ | refine blk_drew ?_ | refine blk_alloc ?_ _)); exact BK699.out⟩, ⟨by (with_reducible repeat (first | refine blk_drewN ?_ _ | refine blk_drew ?_ | refine blk_alloc ?_ _)); exact BK700.out⟩, ⟨by repeat (first | (with_reducible first | exact HB.out | apply below_alloc | apply pw_below_drewN | apply below_drew1 | refine below_set ?_ GE699.out | refine below_set ?_ GE700.out) | exact HB.out)⟩⟩
            · rw [if_neg c44] at H
              have c44b0 : decide ((wrap64 (1 + t695)) < (t716.length : Int)) = false := decide_eq_false c44
              clear c44
              (first | rw [c44b0] | (simp only [i64_w, i32_w]; rw [c44b0]) | skip)
              have H' := Aside0.mk H
              clear H
              go_wp2
              go_meet
              case rel => exact ⟨_, ((t716.length : Int)), (by first | rfl | (simp; done) | (simp [*]; done)), H', ⟨by have := HJ5.out; first | omega | exact Nat.le_refl _⟩, ⟨by (with_reducible repeat (first | apply Kd.R_alloc | apply Kd.R_drewN | apply Kd.R_drew)); exact Kd.R_mono HO_3.out (fun _ hk => ⟨hk.1.1.2, hk.1.2⟩)⟩, ⟨by (with_reducible repeat (first | apply Kd.R_alloc | apply Kd.R_drewN | apply Kd.R_drew)); exact Kd.R_mono HO712.out (fun _ hk => ⟨hk.1.1.2, hk.1.2⟩)⟩, ⟨by (with_reducible repeat (first | apply Kd.R_alloc | apply Kd.R_drewN | apply Kd.R_drew)); exact Kd.R_mono HO715.out (fun _ hk => ⟨hk.1.1.2, hk.1.2⟩)⟩, ⟨by (with_reducible repeat (first | refine blk_drewN ?_ _ | refine blk_drew ?_ | refine blk_alloc ?_ _)); exact BK699.out⟩, ⟨by (with_reducible repeat (first | refine blk_drewN ?_ _ | refine blk_drew ?_ | refine blk_alloc ?_ _)); exact BK700.out⟩, ⟨by repeat (first | (with_reducible first | exact HB.out | apply below_alloc | apply pw_below_drewN | apply below_drew1 | refine below_set ?_ GE699.out | refine below_set ?_ GE700.out) | exact HB.out)⟩⟩
          case rest =>
            clear HC36
            try clear c1
            try clear c2
            try clear c2b0
            try clear c2b1
            try clear p2
            try clear c3
            try clear c4
            try clear p6
            try clear c8
            try clear c14
            try clear c15
            try clear c16
            try clear c16b0
            try clear c16b1
            try clear c16b2
            try clear c17
            try clear c19
            try clear c19b0
            try clear c19b1
            try clear c22
            try clear c28
            try clear c32
            try clear c37
            try clear c38
            try clear c44
            try clear c44b0
            try clear hcz12_0
            try clear hcz12_1
            try clear hcz12_2
            try clear hcz15_0
            try clear hcz15_1
            try clear hcz15_2
            try clear hcz23_0
            try clear hcz23_1
            try clear hcz23_2
            try clear hcz25_0
            try clear hcz25_1
            try clear hcz25_2
            try clear hcz29_0
            try clear hcz29_1
            try clear hcz29_2
            try clear hcz38_0
            try clear hcz38_1
            try clear hcz38_2
            try clear hcz40_0
            try clear hcz40_1
            try clear hcz40_2
            try clear hfz12_0
            try clear hfz12_1
            try clear hfz12_2
            try clear hfz15_0
            try clear hfz15_1
            try clear hfz15_2
            try clear hfz23_0
            try clear hfz23_1
            try clear hfz23_2
            try clear hfz25_0
            try clear hfz25_1
            try clear hfz25_2
            try clear hfz29_0
            try clear hfz29_1
            try clear hfz29_2
            try clear hfz38_0
            try clear hfz38_1
            try clear hfz38_2
            try clear hfz40_0
            try clear hfz40_1
            try clear hfz40_2
            try clear p2
            try clear p6
            obtain ⟨kq, x10_35, rfl, HA, HJ35, HO_3, HO_8, HO_9, BK699, BK700, HB⟩ := hcut
            cases kq with
            | zero => exact absurd HA.out (by simp [laws_FnLru.j1])
            | succ kj35 =>
              have H := HA.out
              clear HA
              simp only [laws_FnLru.j1] at H
              have H' := Aside0.mk H
              clear H
              obtain ⟨Ao45, co45, eo45⟩ := Kd.R_slice HO_9.out
              subst eo45
              go_wp2
              go_loopg [67] kj35 (fun kq v67 w' => ∃ (x67_3 : Int), v67 = .int .i64 x67_3 ∧ Aside0 (laws_FnLru.l0 kq t692 t710 t713 x10_35 t713 (t713.length : Int) x67_3 = some true) ∧ Aside0 (kq ≤ kj35) ∧ Aside0 (Kd.R Kd.string 9 w' w.heap.size (fun k_ => some k_ ≠ (v711 : Value).ownBlock ∧ some k_ ≠ ((.slice Ao45 t713.length co45) : Value).ownBlock ∧ some k_ ≠ ((.slice Ao45 t713.length co45) : Value).ownBlock) (.slice Ao9 t692.length co9) t692) ∧ Aside0 (Kd.R Kd.string 9 w' w.heap.size (fun k_ => some k_ ≠ ((.slice Ao9 t692.length co9) : Value).ownBlock ∧ some k_ ≠ ((.slice Ao45 t713.length co45) : Value).ownBlock ∧ some k_ ≠ ((.slice Ao45 t713.length co45) : Value).ownBlock) v711 t710) ∧ Aside0 (Kd.R Kd.string 9 w' w.heap.size (fun k_ => some k_ ≠ ((.slice Ao9 t692.length co9) : Value).ownBlock ∧ some k_ ≠ (v711 : Value).ownBlock) (.slice Ao45 t713.length co45) t713) ∧ Aside0 (Kd.R Kd.string 9 w' w.heap.size (fun k_ => some k_ ≠ ((.slice Ao9 t692.length co9) : Value).ownBlock ∧ some k_ ≠ (v711 : Value).ownBlock) (.slice Ao45 t713.length co45) t713) ∧ Aside0 (w'.heap[gb699]? = some (.cells #[.int .i64 2, .int .i64 (wrap64 (1 + t695)), .int .i64 0] 28 (0, 0))) ∧ Aside0 (w'.heap[gb700]? = some (.cells #[.int .i64 2, .int .i64 (wrap64 ((wrap64 (1 + t695)) + 1)), .int .i64 0] 28 (0, 0))) ∧ Aside0 (Below w.heap.size w w'))
              case atStart => exact ⟨(0), (by first | rfl | (simp; done) | (simp [*]; done)), H', ⟨Nat.le_refl _⟩, ⟨by (with_reducible repeat (first | apply Kd.R_alloc | apply Kd.R_drewN | apply Kd.R_drew)); exact Kd.R_mono HO_3.out (fun _ hk => ⟨hk.1, ⟨hk.2, hk.2⟩⟩)⟩, ⟨by (with_reducible repeat (first | apply Kd.R_alloc | apply Kd.R_drewN | apply Kd.R_drew)); exact Kd.R_mono HO_8.out (fun _ hk => ⟨hk.1, ⟨hk.2, hk.2⟩⟩)⟩, ⟨by (with_reducible repeat (first | apply Kd.R_alloc | apply Kd.R_drewN | apply Kd.R_drew)); exact HO_9.out⟩, ⟨by (with_reducible repeat (first | apply Kd.R_alloc | apply Kd.R_drewN | apply Kd.R_drew)); exact HO_9.out⟩, ⟨by (with_reducible repeat (first | refine blk_drewN ?_ _ | refine blk_drew ?_ | refine blk_alloc ?_ _)); exact BK699.out⟩, ⟨by (with_reducible repeat (first | refine blk_drewN ?_ _ | refine blk_drew ?_ | refine blk_alloc ?_ _)); exact BK700.out⟩, ⟨by repeat (first | (with_reducible first | exact HB.out | apply below_alloc | apply pw_below_drewN | apply below_drew1 | refine below_set ?_ GE699.out | refine below_set ?_ GE700.out) | exact HB.out)⟩⟩
              case round =>
                clear H'
                try clear c1
                try clear c2
                try clear c2b0
                try clear c2b1
                try clear p2
                try clear c3
                try clear c4
                try clear p6
                try clear c8
                try clear c14
                try clear c15
                try clear c16
                try clear c16b0
                try clear c16b1
                try clear c16b2
                try clear c17
                try clear c19
                try clear c19b0
                try clear c19b1
                try clear c22
                try clear c28
                try clear c32
                try clear c37
                try clear c38
                try clear c44
                try clear c44b0
                try clear hcz12_0
                try clear hcz12_1
                try clear hcz12_2
                try clear hcz15_0
                try clear hcz15_1
                try clear hcz15_2
                try clear hcz23_0
                try clear hcz23_1
                try clear hcz23_2
                try clear hcz25_0
                try clear hcz25_1
                try clear hcz25_2
                try clear hcz29_0
                try clear hcz29_1
                try clear hcz29_2
                try clear hcz38_0
                try clear hcz38_1
                try clear hcz38_2
                try clear hcz40_0
                try clear hcz40_1
                try clear hcz40_2
                try clear hfz12_0
                try clear hfz12_1
                try clear hfz12_2
                try clear hfz15_0
                try clear hfz15_1
                try clear hfz15_2
                try clear hfz23_0
                try clear hfz23_1
                try clear hfz23_2
                try clear hfz25_0
                try clear hfz25_1
                try clear hfz25_2
                try clear hfz29_0
                try clear hfz29_1
                try clear hfz29_2
                try clear hfz38_0
                try clear hfz38_1
                try clear hfz38_2
                try clear hfz40_0
                try clear hfz40_1
                try clear hfz40_2
                try clear p2
                try clear p6
                obtain ⟨x67_3, rfl, HA, HK3, HO_3, HO_8, HO_9, HO_65, BK699, BK700, HB⟩ := hrel
                cases gk with
                | zero => exact absurd HA.out (by simp [laws_FnLru.l0])
                | succ k3 =>
                  have H := HA.out
                  clear HA
                  simp only [laws_FnLru.l0] at H
                  by_cases c46 : x67_3 < (t713.length : Int)
                  · rw [if_pos c46] at H
                    have c46b0 : decide (x67_3 < (t713.length : Int)) = true := decide_eq_true c46
                    clear c46
                    by_cases c47 : 0 ≤ x67_3
                    · rw [if_pos c47] at H
                      have c47b0 : decide (0 ≤ x67_3) = true := decide_eq_true c47
                      clear c47
                      by_cases c48 : x67_3 < (t713.length : Int)
                      · rw [if_pos c48] at H
                        have c48b0 : decide (x67_3 < (t713.length : Int)) = true := decide_eq_true c48
                        clear c48
                        replace H := Option.bind_eq_some_iff.mp H
                        obtain ⟨t720, A490, H⟩ := H
                        replace H : (if t720 = true then (laws_FnLru.l0 k3 t692 t710 t713 x10_35 t713 (t713.length : Int) (wrap64 (x67_3 + 1))) else (some false)) = some true := H
                        have A49 := Aside0.mk A490
                        clear A490
                        by_cases c50 : t720 = true
                        · subst c50
                          have H1 : (laws_FnLru.l0 k3 t692 t710 t713 x10_35 t713 (t713.length : Int) (wrap64 (x67_3 + 1))) = some true := by rw [if_pos rfl] at H; exact H
                          clear H
                          have H := H1
                          clear H1
                          have H' := Aside0.mk H
                          clear H
                          have p719 : 0 ≤ (x67_3 : Int) := of_decide_eq_true (by first | (with_reducible assumption) | assumption)
                          have q719 : x67_3 < (t713.length : Int) := of_decide_eq_true (by first | (with_reducible assumption) | assumption)
                          obtain ⟨ad719, e719, hx719_0⟩ := Kd.at_string (Kd.R_reads' HO_65.out).2.2 x67_3 p719 q719
                          cases e719
                          replace p719 := eq_true p719
                          replace q719 := eq_true q719
                          obtain ⟨Ao51, co51, eo51⟩ := Kd.R_slice HO_8.out
                          subst eo51
                          go_wp2_with (first | ((with_reducible refine gate_callee (f := 40) rfl ?_); refine goesL_ (some 73) rfl rfl Try.func40 (by kernel_rfl) rfl #[.slice Ao51 t710.length co51, .string (rdOf ByteArray.empty t713 x67_3)] rfl (by (try simp only [List.map_toArray, List.map_cons, List.map_nil]); first | done | rfl | (simp only [List.length_drop, List.length_take]; rfl)) ?_; (with_reducible refine (laws_hasText.calls k3 _ _ t710 (rdOf ByteArray.empty t713 x67_3) true _ ?side1 ?side2 A49.out).mono ?_); (case side1 => repeat (first | exact (Kd.R_reads' HO_8.out).2.2 | (with_reducible refine Kd.C_alloc ?_ _) | (with_reducible refine Kd.C_drewN ?_ _) | (with_reducible refine Kd.C_drew ?_))); (case side2 => exact (Kd.R_reads' HO_8.out).2.1); rintro e w' ⟨rfl, ⟨nd, rfl⟩⟩; refine ⟨_, rfl, ?_⟩))
                          go_roundg k3
                          case measure => have := HJ5.out; have := HJ35.out; have := HK3.out; omega
                          case rel => exact ⟨(wrap64 (x67_3 + 1)), (by first | rfl | (simp; done) | (simp [*]; done)), H', ⟨by have := HJ5.out; have := HJ35.out; have := HK3.out; omega⟩, ⟨by (with_reducible repeat (first | apply Kd.R_alloc | apply Kd.R_drewN | apply Kd.R_drew)); exact HO_3.out⟩, ⟨by (with_reducible repeat (first | apply Kd.R_alloc | apply Kd.R_drewN | apply Kd.R_drew)); exact HO_8.out⟩, ⟨by (with_reducible repeat (first | apply Kd.R_alloc | apply Kd.R_drewN | apply Kd.R_drew)); exact HO_9.out⟩, ⟨by (with_reducible repeat (first | apply Kd.R_alloc | apply Kd.R_drewN | apply Kd.R_drew)); exact HO_65.out⟩, ⟨by (with_reducible repeat (first | refine blk_drewN ?_ _ | refine blk_drew ?_ | refine blk_alloc ?_ _)); exact BK699.out⟩, ⟨by (with_reducible repeat (first | refine blk_drewN ?_ _ | refine blk_drew ?_ | refine blk_alloc ?_ _)); exact BK700.out⟩, ⟨by repeat (first | (with_reducible first | exact HB.out | apply below_alloc | apply pw_below_drewN | apply below_drew1 | refine below_set ?_ GE699.out | refine below_set ?_ GE700.out) | exact HB.out)⟩⟩
                        · replace c50 := Bool.eq_false_iff.mpr c50
                          subst c50
                          have H1 : (some false) = some true := by rw [if_neg (show ¬ (false = true) by decide)] at H; exact H
                          exact absurd H1 (by simp)
                      · rw [if_neg c48] at H
                        exact absurd H (by simp)
                    · rw [if_neg c47] at H
                      exact absurd H (by simp)
                  · rw [if_neg c46] at H
                    have c46b0 : decide (x67_3 < (t713.length : Int)) = false := decide_eq_false c46
                    clear c46
                    by_cases c53 : (t713.length : Int) = x10_35
                    · rw [if_pos c53] at H
                      have c53b0 : ((t713.length : Int) == x10_35) = true := beq_iff_eq.mpr c53
                      have c53b1 : ((t713.length : Int) != x10_35) = false := bne_eq_false_iff_eq.mpr c53
                      clear c53
                      replace H := Option.bind_eq_some_iff.mp H
                      obtain ⟨t721, A540, H⟩ := H
                      replace H : ((impl_Distinct.f k3 t692).bind fun t724 => (some ((t721.length : Int) == (t724.length : Int)))) = some true := H
                      have A54 := Aside0.mk A540
                      clear A540
                      replace H := Option.bind_eq_some_iff.mp H
                      obtain ⟨t724, A550, H⟩ := H
                      replace H : (some ((t721.length : Int) == (t724.length : Int))) = some true := H
                      have A55 := Aside0.mk A550
                      clear A550
                      have hr_ := Aside0.mk (Option.some.inj H)
                      go_wp2_with (first | (go_at_call 41; (with_reducible refine (spec_Distinct.calls k3 _ _ t692 t721 _ ?side1 ?side2 A54.out).mono ?_); (case side1 => repeat (first | exact (Kd.R_reads' HO_3.out).2.2 | (with_reducible refine Kd.C_alloc ?_ _) | (with_reducible refine Kd.C_drewN ?_ _) | (with_reducible refine Kd.C_drew ?_))); (case side2 => exact (Kd.R_reads' HO_3.out).2.1); rintro e w56 ⟨v722, rfl, ho0, hb⟩; have n0_ := Aside0.mk (Kd.R_elder' (by (with_reducible repeat (first | apply Kd.R_alloc | apply Kd.R_drewN | apply Kd.R_drew)); exact HO_3.out) (Kd.R_base ho0) hb); have n1_ := Aside0.mk (Kd.R_elder' (by (with_reducible repeat (first | apply Kd.R_alloc | apply Kd.R_drewN | apply Kd.R_drew)); exact HO_8.out) (Kd.R_base ho0) hb); have n2_ := Aside0.mk (Kd.R_elder' (by (with_reducible repeat (first | apply Kd.R_alloc | apply Kd.R_drewN | apply Kd.R_drew)); exact HO_9.out) (Kd.R_base ho0) hb); have n3_ := Aside0.mk (Kd.R_elder' (by (with_reducible repeat (first | apply Kd.R_alloc | apply Kd.R_drewN | apply Kd.R_drew)); exact HO_65.out) (Kd.R_base ho0) hb); have n4_ := Aside0.mk (Kd.R_lower (Kd.R_new' (Kd.R_new' (Kd.R_new' (Kd.R_new' ho0 (Kd.R_lt (by (with_reducible repeat (first | apply Kd.R_alloc | apply Kd.R_drewN | apply Kd.R_drew)); exact HO_3.out))) (Kd.R_lt (by (with_reducible repeat (first | apply Kd.R_alloc | apply Kd.R_drewN | apply Kd.R_drew)); exact HO_8.out))) (Kd.R_lt (by (with_reducible repeat (first | apply Kd.R_alloc | apply Kd.R_drewN | apply Kd.R_drew)); exact HO_9.out))) (Kd.R_lt (by (with_reducible repeat (first | apply Kd.R_alloc | apply Kd.R_drewN | apply Kd.R_drew)); exact HO_65.out))) (below_size (by repeat (first | (with_reducible first | exact HB.out | apply below_alloc | apply pw_below_drewN | apply below_drew1 | refine below_set ?_ GE699.out | refine below_set ?_ GE700.out) | exact HB.out)))); have n5_ := Aside0.mk (blk_below (g := gb699) (o := .cells #[.int .i64 2, .int .i64 (wrap64 (1 + t695)), .int .i64 0] 28 (0, 0)) (by (with_reducible repeat (first | refine blk_drewN ?_ _ | refine blk_drew ?_ | refine blk_alloc ?_ _)); exact BK699.out) hb); have n6_ := Aside0.mk (blk_below (g := gb700) (o := .cells #[.int .i64 2, .int .i64 (wrap64 ((wrap64 (1 + t695)) + 1)), .int .i64 0] 28 (0, 0)) (by (with_reducible repeat (first | refine blk_drewN ?_ _ | refine blk_drew ?_ | refine blk_alloc ?_ _)); exact BK700.out) hb); have n7_ := Aside0.mk (below_step (by repeat (first | (with_reducible first | exact HB.out | apply below_alloc | apply pw_below_drewN | apply below_drew1 | refine below_set ?_ GE699.out | refine below_set ?_ GE700.out) | exact HB.out)) hb); clear HO_3; clear HO_8; clear HO_9; clear HO_65; clear BK699; clear BK700; clear HB; have HO_3 := n0_; have HO_8 := n1_; have HO_9 := n2_; have HO_65 := n3_; have HO723 := n4_; have BK699 := n5_; have BK700 := n6_; have HB := n7_; clear n0_ n1_ n2_ n3_ n4_ n5_ n6_ n7_; (try clear hb); (try clear hb2); (try clear hk); (try clear hi); (try clear ho0); obtain ⟨Ao57, co57, eo57⟩ := Kd.R_slice HO723.out; subst eo57) | (go_at_call 14; (with_reducible refine (impl_Distinct.calls k3 _ _ t692 t724 _ ?side1 ?side2 A55.out).mono ?_); (case side1 => repeat (first | exact (Kd.R_reads' HO_3.out).2.2 | (with_reducible refine Kd.C_alloc ?_ _) | (with_reducible refine Kd.C_drewN ?_ _) | (with_reducible refine Kd.C_drew ?_))); (case side2 => exact (Kd.R_reads' HO_3.out).2.1); rintro e w58 ⟨v725, rfl, ho0, hb⟩; have n0_ := Aside0.mk (Kd.R_elder' (by (with_reducible repeat (first | apply Kd.R_alloc | apply Kd.R_drewN | apply Kd.R_drew)); exact HO_3.out) (Kd.R_base ho0) hb); have n1_ := Aside0.mk (Kd.R_elder' (by (with_reducible repeat (first | apply Kd.R_alloc | apply Kd.R_drewN | apply Kd.R_drew)); exact HO_8.out) (Kd.R_base ho0) hb); have n2_ := Aside0.mk (Kd.R_elder' (by (with_reducible repeat (first | apply Kd.R_alloc | apply Kd.R_drewN | apply Kd.R_drew)); exact HO_9.out) (Kd.R_base ho0) hb); have n3_ := Aside0.mk (Kd.R_elder' (by (with_reducible repeat (first | apply Kd.R_alloc | apply Kd.R_drewN | apply Kd.R_drew)); exact HO_65.out) (Kd.R_base ho0) hb); have n4_ := Aside0.mk (Kd.R_elder' (by (with_reducible repeat (first | apply Kd.R_alloc | apply Kd.R_drewN | apply Kd.R_drew)); exact HO723.out) (Kd.R_base ho0) hb); have n5_ := Aside0.mk (Kd.R_lower (Kd.R_new' (Kd.R_new' (Kd.R_new' (Kd.R_new' (Kd.R_new' ho0 (Kd.R_lt (by (with_reducible repeat (first | apply Kd.R_alloc | apply Kd.R_drewN | apply Kd.R_drew)); exact HO_3.out))) (Kd.R_lt (by (with_reducible repeat (first | apply Kd.R_alloc | apply Kd.R_drewN | apply Kd.R_drew)); exact HO_8.out))) (Kd.R_lt (by (with_reducible repeat (first | apply Kd.R_alloc | apply Kd.R_drewN | apply Kd.R_drew)); exact HO_9.out))) (Kd.R_lt (by (with_reducible repeat (first | apply Kd.R_alloc | apply Kd.R_drewN | apply Kd.R_drew)); exact HO_65.out))) (Kd.R_lt (by (with_reducible repeat (first | apply Kd.R_alloc | apply Kd.R_drewN | apply Kd.R_drew)); exact HO723.out))) (below_size (by repeat (first | (with_reducible first | exact HB.out | apply below_alloc | apply pw_below_drewN | apply below_drew1 | refine below_set ?_ GE699.out | refine below_set ?_ GE700.out) | exact HB.out)))); have n6_ := Aside0.mk (blk_below (g := gb699) (o := .cells #[.int .i64 2, .int .i64 (wrap64 (1 + t695)), .int .i64 0] 28 (0, 0)) (by (with_reducible repeat (first | refine blk_drewN ?_ _ | refine blk_drew ?_ | refine blk_alloc ?_ _)); exact BK699.out) hb); have n7_ := Aside0.mk (blk_below (g := gb700) (o := .cells #[.int .i64 2, .int .i64 (wrap64 ((wrap64 (1 + t695)) + 1)), .int .i64 0] 28 (0, 0)) (by (with_reducible repeat (first | refine blk_drewN ?_ _ | refine blk_drew ?_ | refine blk_alloc ?_ _)); exact BK700.out) hb); have n8_ := Aside0.mk (below_step (by repeat (first | (with_reducible first | exact HB.out | apply below_alloc | apply pw_below_drewN | apply below_drew1 | refine below_set ?_ GE699.out | refine below_set ?_ GE700.out) | exact HB.out)) hb); clear HO_3; clear HO_8; clear HO_9; clear HO_65; clear HO723; clear BK699; clear BK700; clear HB; have HO_3 := n0_; have HO_8 := n1_; have HO_9 := n2_; have HO_65 := n3_; have HO723 := n4_; have HO726 := n5_; have BK699 := n6_; have BK700 := n7_; have HB := n8_; clear n0_ n1_ n2_ n3_ n4_ n5_ n6_ n7_ n8_; (try clear hb); (try clear hb2); (try clear hk); (try clear hi); (try clear ho0); obtain ⟨Ao59, co59, eo59⟩ := Kd.R_slice HO726.out; subst eo59))
                      go_ret
                      exact ⟨by first | rfl | (have hz_ := hr_.out; simp [hz_]; done) | (have hz_ := hr_.out; simp at hz_; simp [hz_]; done) | (have hz_ := hr_.out; simp at hz_ ⊢; omega) | (simp [errW_none, errW_some] <;> rfl) | (simp [*, errW_none, errW_some] <;> rfl), by repeat (first | (with_reducible first | exact HB.out | apply below_alloc | apply pw_below_drewN | apply below_drew1 | refine below_set ?_ GE699.out | refine below_set ?_ GE700.out) | exact HB.out)⟩
                    · rw [if_neg c53] at H
                      have c53b0 : ((t713.length : Int) == x10_35) = false := beq_eq_false_iff_ne.mpr c53
                      have c53b1 : ((t713.length : Int) != x10_35) = true := bne_iff_ne.mpr c53
                      have hr_ := Aside0.mk (Option.some.inj H)
                      go_wp2
                      go_ret
                      exact ⟨by first | rfl | (have hz_ := hr_.out; simp [hz_]; done) | (have hz_ := hr_.out; simp at hz_; simp [hz_]; done) | (have hz_ := hr_.out; simp at hz_ ⊢; omega) | (simp [errW_none, errW_some] <;> rfl) | (simp [*, errW_none, errW_some] <;> rfl), by repeat (first | (with_reducible first | exact HB.out | apply below_alloc | apply pw_below_drewN | apply below_drew1 | refine below_set ?_ GE699.out | refine below_set ?_ GE700.out) | exact HB.out)⟩

/-- THE ONE PURE STATEMENT of laws_FnLru: yours. -/
def laws_FnLru.Pure : Prop := ∀ (l0 : List Int), l0.length ≤ maxLen → l0.length * 1 ≤ 140737488351232 → (∀ x ∈ l0, (Lit.int .u8 x).wf = true) → ∃ k, laws_FnLru.f k l0 = some true
theorem laws_FnLru.walk (P : laws_FnLru.Pure) (a0 : Option Addr) (len0 cap0 : Nat) (z0 : List Int) (w : World) (w0 : (a0 = none ∧ len0 = 0 ∧ cap0 = 0 ∧ z0 = []) ∨ ∃ x, a0 = some x ∧ len0 ≤ cap0 ∧ cap0 ≤ maxLen ∧ z0.length = cap0 ∧ (∀ i, i < z0.length → w.cell? (x.add i) = some (.int .u8 (z0.getD i 0))) ∧ ∀ n ∈ z0, (Lit.int .u8 n).wf = true) (y0 : len0 * 1 ≤ 140737488351232) :
    Calls Try.prog 8 #[.slice a0 len0 cap0] w fun e w' => e = .returned (.bool true) ∧ Below w.heap.size w w' := by
  obtain ⟨l0, rfl, hr0, hm0, hw0, hc0⟩ := ReadsInt.ofRowC w0
  obtain ⟨k, h⟩ := P l0 hm0 y0 hw0
  refine (laws_FnLru.calls k _ _ l0 w (Kd.C_of_reads (d := (0 : Int)) (h1 := fun _ => rfl) hr0) hc0 h).mono ?_
  rintro e w' ⟨rfl, hd⟩
  exact ⟨rfl, hd⟩

end Go.Proofs.Ytkaahabgbngodaa.Core

namespace Go.Proofs.Ytkaahabgbngodaa.Core
open Go.RowKit Go.Proofs.YtkaahabgbngodaaW.PrintWords Go.Proofs.YtkaahabgbngodaaW.PrintLast Go.Proofs.YtkaahabgbngodaaW.PrintMore
attribute [local go_sem] max2_int min2_int max_two min_two max_three min_three max_four min_four   -- for this text's walks alone
set_option linter.unusedVariables false
set_option linter.unusedSimpArgs false

/-! ### laws_sameTexts: function 18 -/
def laws_sameTexts.l0 : Nat → List ByteArray → List ByteArray → Int → Int → Option (Bool)
  | 0, _, _, _, _ => none
  | k + 1, x0, x1, x12, x13 => if x13 < x12 then (if 0 ≤ x13 then (if x13 < (x0.length : Int) then (if x13 < (x1.length : Int) then (if (rdOf ByteArray.empty x0 x13).toList = (rdOf ByteArray.empty x1 x13).toList then (laws_sameTexts.l0 k x0 x1 x12 (wrap64 (x13 + 1))) else (some false)) else (none)) else (none)) else (none)) else (some true)
def laws_sameTexts.f (k : Nat) (l0 : List ByteArray) (l1 : List ByteArray) : Option (Bool) := if (l0.length : Int) = (l1.length : Int) then (laws_sameTexts.l0 k l0 l1 (l0.length : Int) 0) else (some false)
theorem laws_sameTexts.mono_l : ∀ k, (∀ y0 y1 y2 y3, LeO (laws_sameTexts.l0 k y0 y1 y2 y3) (laws_sameTexts.l0 (k + 1) y0 y1 y2 y3))
  | 0 => fun _ _ _ _ r h => by simp [laws_sameTexts.l0] at h
  | k + 1 => by
    have ih0 := laws_sameTexts.mono_l k
    · intro y0 y1 y2 y3
      unfold laws_sameTexts.l0
      repeat' first
      | (with_reducible exact ih0 _ _ _ _)
      | (with_reducible exact LeO.refl _)
      | (with_reducible exact LeO.none _)
      | (with_reducible refine LeO.ite ?_ ?_)
      | (with_reducible refine LeO.bind ?_ (fun _ => ?_))
      | exact ih0 _ _ _ _
      | exact LeO.none _
      | refine LeO.ite ?_ ?_
      | refine LeO.bind ?_ (fun _ => ?_)
theorem laws_sameTexts.mono : ∀ a0 a1 k, LeO (laws_sameTexts.f k a0 a1) (laws_sameTexts.f (k + 1) a0 a1) := by
  intro a0 a1 k
  have ih0 := laws_sameTexts.mono_l k
  unfold laws_sameTexts.f
  repeat' first
      | (with_reducible exact ih0 _ _ _ _)
      | (with_reducible exact LeO.refl _)
      | (with_reducible exact LeO.none _)
      | (with_reducible refine LeO.ite ?_ ?_)
      | (with_reducible refine LeO.bind ?_ (fun _ => ?_))
      | exact ih0 _ _ _ _
      | exact LeO.none _
      | refine LeO.ite ?_ ?_
      | refine LeO.bind ?_ (fun _ => ?_)
set_option maxHeartbeats 8000000 in
set_option maxRecDepth 100000 in
theorem laws_sameTexts.calls (k : Nat) (A0 : Option Addr) (c0 : Nat) (l0 : List ByteArray) (A1 : Option Addr) (c1 : Nat) (l1 : List ByteArray) (r : Bool) (w : World) (hr0 : Kd.C Kd.string w A0 l0.length l0) (hc0 : l0.length ≤ c0) (hr1 : Kd.C Kd.string w A1 l1.length l1) (hc1 : l1.length ≤ c1) (h : laws_sameTexts.f k l0 l1 = some r) :
    Calls Try.prog 18 #[.slice A0 l0.length c0, .slice A1 l1.length c1] w fun e w' => e = .returned (.bool r) ∧ Drawn0 w w' := by
  have HR0 := Aside0.mk hr0
  have HC0 := Aside0.mk hc0
  clear hr0 hc0
  have HR1 := Aside0.mk hr1
  have HC1 := Aside0.mk hc1
  clear hr1 hc1
  have H : (if (l0.length : Int) = (l1.length : Int) then (laws_sameTexts.l0 k l0 l1 (l0.length : Int) 0) else (some false)) = some r := h
  clear h
  by_cases c3 : (l0.length : Int) = (l1.length : Int)
  · rw [if_pos c3] at H
    have c3b0 : ((l0.length : Int) == (l1.length : Int)) = true := beq_iff_eq.mpr c3
    have c3b1 : ((l0.length : Int) != (l1.length : Int)) = false := bne_eq_false_iff_eq.mpr c3
    have c3b2 : (l0.length == l1.length) = true := by first | simpa using c3 | (simp at c3 ⊢; omega)
    clear c3
    have H' := Aside0.mk H
    clear H
    go_enter Try.func18, Try.ntmps18
    go_wp2
    repeat (go_quiet (fail); try go_wp2)
    go_loopg [13] k (fun kq v13 w' => ∃ (x13_1 : Int), v13 = .int .i64 x13_1 ∧ Aside0 (laws_sameTexts.l0 kq l0 l1 (l0.length : Int) x13_1 = some r) ∧ Aside0 (kq ≤ k) ∧ Drawn0 w w')
    case atStart => exact ⟨(0), (by first | rfl | (simp; done) | (simp [*]; done)), H', ⟨Nat.le_refl _⟩, by repeat (first | exact Drawn0.refl _ | apply Drawn0.step)⟩
    case round =>
      clear H'
      try clear c1
      try clear p2
      try clear c3
      try clear c3b0
      try clear c3b1
      try clear c3b2
      obtain ⟨x13_1, rfl, HA, HK1, ⟨m1, rfl⟩⟩ := hrel
      cases gk with
      | zero => exact absurd HA.out (by simp [laws_sameTexts.l0])
      | succ k1 =>
        have H := HA.out
        clear HA
        simp only [laws_sameTexts.l0] at H
        by_cases c4 : x13_1 < (l0.length : Int)
        · rw [if_pos c4] at H
          have c4b0 : decide (x13_1 < (l0.length : Int)) = true := decide_eq_true c4
          clear c4
          by_cases c5 : 0 ≤ x13_1
          · rw [if_pos c5] at H
            have c5b0 : decide (0 ≤ x13_1) = true := decide_eq_true c5
            clear c5
            by_cases c6 : x13_1 < (l0.length : Int)
            · rw [if_pos c6] at H
              have c6b0 : decide (x13_1 < (l0.length : Int)) = true := decide_eq_true c6
              clear c6
              by_cases c7 : x13_1 < (l1.length : Int)
              · rw [if_pos c7] at H
                have c7b0 : decide (x13_1 < (l1.length : Int)) = true := decide_eq_true c7
                clear c7
                by_cases c8 : (rdOf ByteArray.empty l0 x13_1).toList = (rdOf ByteArray.empty l1 x13_1).toList
                · rw [if_pos c8] at H
                  have c8b0 : ((rdOf ByteArray.empty l0 x13_1).toList == (rdOf ByteArray.empty l1 x13_1).toList) = true := beq_iff_eq.mpr c8
                  have c8b1 : ((rdOf ByteArray.empty l0 x13_1).toList != (rdOf ByteArray.empty l1 x13_1).toList) = false := bne_eq_false_iff_eq.mpr c8
                  clear c8
                  have H' := Aside0.mk H
                  clear H
                  have p251 : 0 ≤ (x13_1 : Int) := of_decide_eq_true (by first | (with_reducible assumption) | assumption)
                  have q251 : x13_1 < (l0.length : Int) := of_decide_eq_true (by first | (with_reducible assumption) | assumption)
                  obtain ⟨ad251, e251, hx251_0⟩ := Kd.at_string HR0.out x13_1 p251 q251
                  cases e251
                  replace p251 := eq_true p251
                  replace q251 := eq_true q251
                  have p252 : 0 ≤ (x13_1 : Int) := of_decide_eq_true (by first | (with_reducible assumption) | assumption)
                  have q252 : x13_1 < (l1.length : Int) := of_decide_eq_true (by first | (with_reducible assumption) | assumption)
                  obtain ⟨ad252, e252, hx252_0⟩ := Kd.at_string HR1.out x13_1 p252 q252
                  cases e252
                  replace p252 := eq_true p252
                  replace q252 := eq_true q252
                  go_wp2
                  repeat (go_quiet (fail); try go_wp2)
                  go_roundg k1
                  case measure => have := HK1.out; omega
                  case rel => exact ⟨(wrap64 (x13_1 + 1)), (by first | rfl | (simp; done) | (simp [*]; done)), H', ⟨by have := HK1.out; omega⟩, by repeat (first | exact Drawn0.refl _ | apply Drawn0.step)⟩
                · rw [if_neg c8] at H
                  have c8b0 : ((rdOf ByteArray.empty l0 x13_1).toList == (rdOf ByteArray.empty l1 x13_1).toList) = false := beq_eq_false_iff_ne.mpr c8
                  have c8b1 : ((rdOf ByteArray.empty l0 x13_1).toList != (rdOf ByteArray.empty l1 x13_1).toList) = true := bne_iff_ne.mpr c8
                  obtain rfl := Option.some.inj H
                  have p251 : 0 ≤ (x13_1 : Int) := of_decide_eq_true (by first | (with_reducible assumption) | assumption)
                  have q251 : x13_1 < (l0.length : Int) := of_decide_eq_true (by first | (with_reducible assumption) | assumption)
                  obtain ⟨ad251, e251, hx251_0⟩ := Kd.at_string HR0.out x13_1 p251 q251
                  cases e251
                  replace p251 := eq_true p251
                  replace q251 := eq_true q251
                  have p252 : 0 ≤ (x13_1 : Int) := of_decide_eq_true (by first | (with_reducible assumption) | assumption)
                  have q252 : x13_1 < (l1.length : Int) := of_decide_eq_true (by first | (with_reducible assumption) | assumption)
                  obtain ⟨ad252, e252, hx252_0⟩ := Kd.at_string HR1.out x13_1 p252 q252
                  cases e252
                  replace p252 := eq_true p252
                  replace q252 := eq_true q252
                  go_wp2
                  repeat (go_quiet (fail); try go_wp2)
                  go_ret
                  exact ⟨by first | rfl | (simp; done) | (simp [*]; done), by repeat (first | exact Drawn0.refl _ | apply Drawn0.step)⟩
              · rw [if_neg c7] at H
                exact absurd H (by simp)
            · rw [if_neg c6] at H
              exact absurd H (by simp)
          · rw [if_neg c5] at H
            exact absurd H (by simp)
        · rw [if_neg c4] at H
          have c4b0 : decide (x13_1 < (l0.length : Int)) = false := decide_eq_false c4
          clear c4
          obtain rfl := Option.some.inj H
          go_wp2
          repeat (go_quiet (fail); try go_wp2)
          go_ret
          exact ⟨by first | rfl | (simp; done) | (simp [*]; done), by repeat (first | exact Drawn0.refl _ | apply Drawn0.step)⟩
  · rw [if_neg c3] at H
    have c3b0 : ((l0.length : Int) == (l1.length : Int)) = false := beq_eq_false_iff_ne.mpr c3
    have c3b1 : ((l0.length : Int) != (l1.length : Int)) = true := bne_iff_ne.mpr c3
    have c3b2 : (l0.length == l1.length) = false := by first | simpa using c3 | (simp at c3 ⊢; omega)
    obtain rfl := Option.some.inj H
    go_enter Try.func18, Try.ntmps18
    go_wp2
    repeat (go_quiet (fail); try go_wp2)
    go_ret
    exact ⟨by first | rfl | (simp; done) | (simp [*]; done), by repeat (first | exact Drawn0.refl _ | apply Drawn0.step)⟩

end Go.Proofs.Ytkaahabgbngodaa.Core

namespace Go.Proofs.Ytkaahabgbngodaa.Core
open Go.RowKit Go.Proofs.YtkaahabgbngodaaW.PrintWords Go.Proofs.YtkaahabgbngodaaW.PrintLast Go.Proofs.YtkaahabgbngodaaW.PrintMore
attribute [local go_sem] max2_int min2_int max_two min_two max_three min_three max_four min_four   -- for this text's walks alone
set_option linter.unusedVariables false
set_option linter.unusedSimpArgs false

/-! ### laws_less: function 19 -/
def laws_less.f (a0 : Bool) : Option (Int) := if a0 = true then (some 1) else (some 0)
set_option maxHeartbeats 8000000 in
set_option maxRecDepth 100000 in
theorem laws_less.calls (a0 : Bool) (r : Int) (w : World) (h : laws_less.f a0 = some r) :
    Calls Try.prog 19 #[.bool a0] w fun e w' => e = .returned (.int .i64 r) ∧ Drawn0 w w' := by
  have H : (if a0 = true then (some 1) else (some 0)) = some r := h
  clear h
  by_cases c2 : a0 = true
  · subst c2
    have H1 : (some 1) = some r := by rw [if_pos rfl] at H; exact H
    clear H
    have H := H1
    clear H1
    obtain rfl := Option.some.inj H
    go_enter Try.func19, Try.ntmps19
    go_wp2
    go_ret
    exact ⟨by first | rfl | (simp; done) | (simp [*]; done), by repeat (first | exact Drawn0.refl _ | apply Drawn0.step)⟩
  · replace c2 := Bool.eq_false_iff.mpr c2
    subst c2
    have H1 : (some 0) = some r := by rw [if_neg (show ¬ (false = true) by decide)] at H; exact H
    clear H
    have H := H1
    clear H1
    obtain rfl := Option.some.inj H
    go_enter Try.func19, Try.ntmps19
    go_wp2
    go_ret
    exact ⟨by first | rfl | (simp; done) | (simp [*]; done), by repeat (first | exact Drawn0.refl _ | apply Drawn0.step)⟩

end Go.Proofs.Ytkaahabgbngodaa.Core

namespace Go.Proofs.Ytkaahabgbngodaa.Core
open Go.RowKit Go.Proofs.YtkaahabgbngodaaW.PrintWords Go.Proofs.YtkaahabgbngodaaW.PrintLast Go.Proofs.YtkaahabgbngodaaW.PrintMore
attribute [local go_sem] max2_int min2_int max_two min_two max_three min_three max_four min_four   -- for this text's walks alone
set_option linter.unusedVariables false
set_option linter.unusedSimpArgs false

/-! ### impl_HitsOf: function 34 -/
def impl_HitsOf.f (k : Nat) (a0_0 a0_1 a0_2 : Int) (l1 : List ByteArray) : Option (List Bool) :=
  (askSet k a0_0 a0_1 a0_2 l1).bind fun o => match o with | none => some [] | some q => some q.2.2.2.1
theorem impl_HitsOf.mono : ∀ a0 a1 a2 a3 k, LeO (impl_HitsOf.f k a0 a1 a2 a3) (impl_HitsOf.f (k + 1) a0 a1 a2 a3) := by
  intro a0 a1 a2 a3 k
  unfold impl_HitsOf.f
  refine LeO.bind (askSet.mono _ _ _ _ _) (fun o => ?_)
  cases o with
  | none => exact LeO.refl _
  | some q => exact LeO.refl _
set_option maxHeartbeats 8000000 in
set_option maxRecDepth 100000 in
theorem impl_HitsOf.calls (k : Nat) (a0_0 a0_1 a0_2 : Int) (A1 : Option Addr) (c1 : Nat) (l1 : List ByteArray) (r : List Bool) (w : World) (hr1 : Kd.C Kd.string w A1 l1.length l1) (hc1 : l1.length ≤ c1) (h : impl_HitsOf.f k a0_0 a0_1 a0_2 l1 = some r) :
    Calls Try.prog 34 #[.agg #[.int .i64 a0_0, .int .i64 a0_1, .int .i64 a0_2], .slice A1 l1.length c1] w fun e w' => ∃ v0_ : Value, e = .returned (v0_) ∧ Kd.R Kd.bool 4 w' w.heap.size (fun _ => True) v0_ r ∧ Below w.heap.size w w' := by
  have HR := Aside0.mk hr1
  have HC := Aside0.mk hc1
  obtain ⟨o, h1, h2⟩ := Option.bind_eq_some_iff.mp h
  clear hr1 hc1 h
  rcases askSet.ways h1 with ⟨h3, rfl⟩ | ⟨h3, h4, rfl⟩ | ⟨h3, h4, hne, rk, rc, ri, ok, q, h5, h6, rfl⟩
  · have OK := Aside0.mk h3
    obtain rfl := Option.some.inj h2
    clear h1 h2 h3
    go_enter Try.func34, Try.ntmps34
    go_wp2_with (first | (go_at_call 33; (with_reducible refine (impl_SetupOk.calls k a0_0 a0_1 a0_2 false _ OK.out).mono ?_); rintro e w1 ⟨rfl, hb⟩; have HB1 := Aside0.mk (below_step ((Below.refl w.heap.size w).alloc (Nat.le_refl _) _) hb); have BB := Aside0.mk (show w1.heap[w.heap.size]? = some (.cells #[.int .i64 a0_0, .int .i64 a0_1, .int .i64 a0_2] 28 (0, 0)) from blk_below (blk_new w _) hb); have HRA := Aside0.mk (Kd.C_below (Kd.C_alloc HR.out _) hb); clear hb; obtain ⟨⟨p0, p1, p2⟩, q0, q1, q2⟩ := cells3 BB.out))
    go_ret
    exact ⟨_, rfl, Kd.R_nil _ _ _ _ _, HB1.out⟩
  · have OK := Aside0.mk h3
    have AOK := Aside0.mk h4
    obtain rfl := Option.some.inj h2
    clear h1 h2 h3 h4
    go_enter Try.func34, Try.ntmps34
    go_wp2_with (first | (go_at_call 33; (with_reducible refine (impl_SetupOk.calls k a0_0 a0_1 a0_2 true _ OK.out).mono ?_); rintro e w1 ⟨rfl, hb⟩; have HB1 := Aside0.mk (below_step ((Below.refl w.heap.size w).alloc (Nat.le_refl _) _) hb); have BB := Aside0.mk (show w1.heap[w.heap.size]? = some (.cells #[.int .i64 a0_0, .int .i64 a0_1, .int .i64 a0_2] 28 (0, 0)) from blk_below (blk_new w _) hb); have HRA := Aside0.mk (Kd.C_below (Kd.C_alloc HR.out _) hb); clear hb; obtain ⟨⟨p0, p1, p2⟩, q0, q1, q2⟩ := cells3 BB.out) | (go_at_call 37; (with_reducible refine (impl_AsksOk.calls k A1 c1 l1 false _ HRA.out HC.out AOK.out).mono ?_); rintro e w2 ⟨rfl, hb⟩; have HB2 := Aside0.mk (below_step HB1.out hb); have BB2 := Aside0.mk (blk_below BB.out hb); have HRB := Aside0.mk (Kd.C_below HRA.out hb); clear hb p0 p1 p2 q0 q1 q2; obtain ⟨⟨p0, p1, p2⟩, q0, q1, q2⟩ := cells3 BB2.out))
    go_ret
    exact ⟨_, rfl, Kd.R_nil _ _ _ _ _, HB2.out⟩
  · have OK := Aside0.mk h3
    have AOK := Aside0.mk h4
    have NE4 := Aside0.mk hne
    have NW := Aside0.mk h5
    obtain ⟨y1, y2, y3, y4, y5⟩ := q
    have GO := Aside0.mk h6
    obtain rfl := Option.some.inj h2
    clear h1 h2 h3 h4 hne h5 h6
    go_enter Try.func34, Try.ntmps34
    go_wp2_with (first | (go_at_call 33; (with_reducible refine (impl_SetupOk.calls k a0_0 a0_1 a0_2 true _ OK.out).mono ?_); rintro e w1 ⟨rfl, hb⟩; have HB1 := Aside0.mk (below_step ((Below.refl w.heap.size w).alloc (Nat.le_refl _) _) hb); have BB := Aside0.mk (show w1.heap[w.heap.size]? = some (.cells #[.int .i64 a0_0, .int .i64 a0_1, .int .i64 a0_2] 28 (0, 0)) from blk_below (blk_new w _) hb); have HRA := Aside0.mk (Kd.C_below (Kd.C_alloc HR.out _) hb); clear hb; obtain ⟨⟨p0, p1, p2⟩, q0, q1, q2⟩ := cells3 BB.out) | (go_at_call 37; (with_reducible refine (impl_AsksOk.calls k A1 c1 l1 true _ HRA.out HC.out AOK.out).mono ?_); rintro e w2 ⟨rfl, hb⟩; have HB2 := Aside0.mk (below_step HB1.out hb); have BB2 := Aside0.mk (blk_below BB.out hb); have HRB := Aside0.mk (Kd.C_below HRA.out hb); clear hb p0 p1 p2 q0 q1 q2; obtain ⟨⟨p0, p1, p2⟩, q0, q1, q2⟩ := cells3 BB2.out) | (go_at_call 75; (with_reducible refine (impl_asked.row k a0_0 a0_1 a0_2 A1 c1 l1 rk rc ri ok y1 y2 y3 y4 y5 _ HRB.out HC.out NE4.out NW.out GO.out).mono ?_); rintro e w3 ⟨g, v, rfl, hgg, hra, hv, hb⟩; have HB3 := Aside0.mk (below_step HB2.out hb); have HV := Aside0.mk (Kd.R_lower hv (below_size HB2.out)); have RA := Aside0.mk (RowAt.lower hra (below_size HB2.out)); clear hb hv hra hgg p0 p1 p2))
    go_ret
    exact ⟨_, rfl, HV.out, HB3.out⟩

end Go.Proofs.Ytkaahabgbngodaa.Core

namespace Go.Proofs.Ytkaahabgbngodaa.Core
open Go.RowKit Go.Proofs.YtkaahabgbngodaaW.PrintWords Go.Proofs.YtkaahabgbngodaaW.PrintLast Go.Proofs.YtkaahabgbngodaaW.PrintMore
attribute [local go_sem] max2_int min2_int max_two min_two max_three min_three max_four min_four   -- for this text's walks alone
set_option linter.unusedVariables false
set_option linter.unusedSimpArgs false

/-! ### impl_NextAsk: function 185 -/
def impl_NextAsk.l0 : Nat → List ByteArray → ByteArray → Int → Option (Int)
  | 0, _, _, _ => none
  | k + 1, x0, x1, x7 => if x7 < (x0.length : Int) then (if 0 ≤ x7 then (if (rdOf ByteArray.empty x0 x7).toList = x1.toList then (some x7) else (impl_NextAsk.l0 k x0 x1 (wrap64 (x7 + 1)))) else (none)) else (some (x0.length : Int))
def impl_NextAsk.f (k : Nat) (l0 : List ByteArray) (a1 : ByteArray) (a2 : Int) : Option (Int) := impl_NextAsk.l0 k l0 a1 (mx 0 a2)
theorem impl_NextAsk.mono_l : ∀ k, (∀ y0 y1 y2, LeO (impl_NextAsk.l0 k y0 y1 y2) (impl_NextAsk.l0 (k + 1) y0 y1 y2))
  | 0 => fun _ _ _ r h => by simp [impl_NextAsk.l0] at h
  | k + 1 => by
    have ih0 := impl_NextAsk.mono_l k
    · intro y0 y1 y2
      unfold impl_NextAsk.l0
      repeat' first
      | (with_reducible exact ih0 _ _ _)
      | (with_reducible exact LeO.refl _)
      | (with_reducible exact LeO.none _)
      | (with_reducible refine LeO.ite ?_ ?_)
      | (with_reducible refine LeO.bind ?_ (fun _ => ?_))
      | exact ih0 _ _ _
      | exact LeO.none _
      | refine LeO.ite ?_ ?_
      | refine LeO.bind ?_ (fun _ => ?_)
theorem impl_NextAsk.mono : ∀ a0 a1 a2 k, LeO (impl_NextAsk.f k a0 a1 a2) (impl_NextAsk.f (k + 1) a0 a1 a2) := by
  intro a0 a1 a2 k
  have ih0 := impl_NextAsk.mono_l k
  unfold impl_NextAsk.f
  repeat' first
      | (with_reducible exact ih0 _ _ _)
      | (with_reducible exact LeO.refl _)
      | (with_reducible exact LeO.none _)
      | (with_reducible refine LeO.ite ?_ ?_)
      | (with_reducible refine LeO.bind ?_ (fun _ => ?_))
      | exact ih0 _ _ _
      | exact LeO.none _
      | refine LeO.ite ?_ ?_
      | refine LeO.bind ?_ (fun _ => ?_)
set_option maxHeartbeats 8000000 in
set_option maxRecDepth 100000 in
theorem impl_NextAsk.calls (k : Nat) (A0 : Option Addr) (c0 : Nat) (l0 : List ByteArray) (a1 : ByteArray) (a2 : Int) (r : Int) (w : World) (hr0 : Kd.C Kd.string w A0 l0.length l0) (hc0 : l0.length ≤ c0) (h : impl_NextAsk.f k l0 a1 a2 = some r) :
    Calls Try.prog 185 #[.slice A0 l0.length c0, .string a1, .int .i64 a2] w fun e w' => e = .returned (.int .i64 r) ∧ Below w.heap.size w w' := by
  have HR0 := Aside0.mk hr0
  have HC0 := Aside0.mk hc0
  clear hr0 hc0
  have HB := Aside0.mk (Below.refl w.heap.size w)
  have H : (impl_NextAsk.l0 k l0 a1 (mx 0 a2)) = some r := h
  clear h
  obtain ⟨ji4, hji4⟩ : ∃ j_ : Int, (mx 0 a2) = j_ := ⟨_, rfl⟩
  replace H : (impl_NextAsk.l0 k l0 a1 ji4) = some r := by first | (rw [hji4] at H; exact H) | (simp only [hji4] at H ⊢; exact H)
  (try (have hji4l : 0 ≤ ji4 := by (rw [← hji4]; unfold mx; (repeat' split) <;> omega)))
  (try (have hji4m : 0 ≤ ji4 := by omega))
  have hji4_ : (if 0 < a2 then a2 else 0) = ji4 := hji4
  have H' := Aside0.mk H
  clear H
  go_enter Try.func185, Try.ntmps185
  go_wp2
  go_loopg [7] k (fun kq v7 w' => ∃ (x7_1 : Int), v7 = .int .i64 x7_1 ∧ Aside0 (impl_NextAsk.l0 kq l0 a1 x7_1 = some r) ∧ Aside0 (kq ≤ k) ∧ Aside0 (Below w.heap.size w w'))
  case atStart => exact ⟨(ji4), (by first | rfl | (simp; done) | (simp only [← hji4] <;> (first | rfl | simp)) | (simp [*]; done)), H', ⟨Nat.le_refl _⟩, ⟨by repeat (first | (with_reducible first | exact HB.out | apply below_alloc | apply pw_below_drewN | apply below_drew1) | exact HB.out)⟩⟩
  case round =>
    clear H'
    try clear c1
    try clear p2
    obtain ⟨x7_1, rfl, HA, HK1, HB⟩ := hrel
    cases gk with
    | zero => exact absurd HA.out (by simp [impl_NextAsk.l0])
    | succ k1 =>
      have H := HA.out
      clear HA
      simp only [impl_NextAsk.l0] at H
      by_cases c5 : x7_1 < (l0.length : Int)
      · rw [if_pos c5] at H
        have c5b0 : decide (x7_1 < (l0.length : Int)) = true := decide_eq_true c5
        clear c5
        by_cases c6 : 0 ≤ x7_1
        · rw [if_pos c6] at H
          have c6b0 : decide (0 ≤ x7_1) = true := decide_eq_true c6
          clear c6
          by_cases c7 : (rdOf ByteArray.empty l0 x7_1).toList = a1.toList
          · rw [if_pos c7] at H
            have c7b0 : ((rdOf ByteArray.empty l0 x7_1).toList == a1.toList) = true := beq_iff_eq.mpr c7
            have c7b1 : ((rdOf ByteArray.empty l0 x7_1).toList != a1.toList) = false := bne_eq_false_iff_eq.mpr c7
            clear c7
            obtain rfl := Option.some.inj H
            have p341 : 0 ≤ (x7_1 : Int) := of_decide_eq_true (by first | (with_reducible assumption) | assumption)
            have q341 : x7_1 < (l0.length : Int) := of_decide_eq_true (by first | (with_reducible assumption) | assumption)
            obtain ⟨ad341, e341, hx341_0⟩ := Kd.at_string HR0.out x7_1 p341 q341
            cases e341
            replace hx341_0 := (HB.out.cell (World.block_lt_of_cell? w _ hx341_0)).trans hx341_0
            replace p341 := eq_true p341
            replace q341 := eq_true q341
            go_wp2
            go_ret
            exact ⟨by first | rfl | (simp [errW_none, errW_some] <;> rfl) | (simp only [← hji4]; first | rfl | (simp [errW_none, errW_some] <;> rfl)) | (simp [*, errW_none, errW_some] <;> rfl), by repeat (first | (with_reducible first | exact HB.out | apply below_alloc | apply pw_below_drewN | apply below_drew1) | exact HB.out)⟩
          · rw [if_neg c7] at H
            have c7b0 : ((rdOf ByteArray.empty l0 x7_1).toList == a1.toList) = false := beq_eq_false_iff_ne.mpr c7
            have c7b1 : ((rdOf ByteArray.empty l0 x7_1).toList != a1.toList) = true := bne_iff_ne.mpr c7
            have H' := Aside0.mk H
            clear H
            have p341 : 0 ≤ (x7_1 : Int) := of_decide_eq_true (by first | (with_reducible assumption) | assumption)
            have q341 : x7_1 < (l0.length : Int) := of_decide_eq_true (by first | (with_reducible assumption) | assumption)
            obtain ⟨ad341, e341, hx341_0⟩ := Kd.at_string HR0.out x7_1 p341 q341
            cases e341
            replace hx341_0 := (HB.out.cell (World.block_lt_of_cell? w _ hx341_0)).trans hx341_0
            replace p341 := eq_true p341
            replace q341 := eq_true q341
            go_wp2
            go_roundg k1
            case measure => have := HK1.out; omega
            case rel => exact ⟨(wrap64 (x7_1 + 1)), (by first | rfl | (simp; done) | (simp [*]; done)), H', ⟨by have := HK1.out; omega⟩, ⟨by repeat (first | (with_reducible first | exact HB.out | apply below_alloc | apply pw_below_drewN | apply below_drew1) | exact HB.out)⟩⟩
        · rw [if_neg c6] at H
          exact absurd H (by simp)
      · rw [if_neg c5] at H
        have c5b0 : decide (x7_1 < (l0.length : Int)) = false := decide_eq_false c5
        clear c5
        obtain rfl := Option.some.inj H
        go_wp2
        go_ret
        exact ⟨by first | rfl | (simp [errW_none, errW_some] <;> rfl) | (simp only [← hji4]; first | rfl | (simp [errW_none, errW_some] <;> rfl)) | (simp [*, errW_none, errW_some] <;> rfl), by repeat (first | (with_reducible first | exact HB.out | apply below_alloc | apply pw_below_drewN | apply below_drew1) | exact HB.out)⟩

end Go.Proofs.Ytkaahabgbngodaa.Core

namespace Go.Proofs.Ytkaahabgbngodaa.Core
open Go.RowKit Go.Proofs.YtkaahabgbngodaaW.PrintWords Go.Proofs.YtkaahabgbngodaaW.PrintLast Go.Proofs.YtkaahabgbngodaaW.PrintMore
attribute [local go_sem] max2_int min2_int max_two min_two max_three min_three max_four min_four   -- for this text's walks alone
set_option linter.unusedVariables false
set_option linter.unusedSimpArgs false

/-! ### impl_BestGo: function 142 -/
def impl_BestGo.l0 : Nat → List ByteArray → Int → Int → Int → List ByteArray → Int → Int → Option (Int)
  | 0, _, _, _, _, _, _, _ => none
  | k + 1, x0, x2, x7, x8, x12, x13, x14 => if x14 < x13 then (if 0 ≤ x14 then (if x14 < (x12.length : Int) then ((impl_NextAsk.f k x0 (rdOf ByteArray.empty x12 x14) x2).bind fun t343 => (if t343 > x8 then (impl_BestGo.l0 k x0 x2 x14 t343 x12 x13 (wrap64 (x14 + 1))) else (impl_BestGo.l0 k x0 x2 x7 x8 x12 x13 (wrap64 (x14 + 1))))) else (none)) else (none)) else (some x7)
def impl_BestGo.f (k : Nat) (l0 : List ByteArray) (l1 : List ByteArray) (a2 : Int) : Option (Int) := impl_BestGo.l0 k l0 a2 (-1) (-1) l1 (l1.length : Int) 0
theorem impl_BestGo.mono_l : ∀ k, (∀ y0 y1 y2 y3 y4 y5 y6, LeO (impl_BestGo.l0 k y0 y1 y2 y3 y4 y5 y6) (impl_BestGo.l0 (k + 1) y0 y1 y2 y3 y4 y5 y6))
  | 0 => fun _ _ _ _ _ _ _ r h => by simp [impl_BestGo.l0] at h
  | k + 1 => by
    have ih0 := impl_BestGo.mono_l k
    · intro y0 y1 y2 y3 y4 y5 y6
      unfold impl_BestGo.l0
      repeat' first
      | (with_reducible exact ih0 _ _ _ _ _ _ _)
      | (with_reducible exact impl_NextAsk.mono _ _ _ _)
      | (with_reducible exact LeO.refl _)
      | (with_reducible exact LeO.none _)
      | (with_reducible refine LeO.ite ?_ ?_)
      | (with_reducible refine LeO.bind ?_ (fun _ => ?_))
      | exact ih0 _ _ _ _ _ _ _
      | exact impl_NextAsk.mono _ _ _ _
      | exact LeO.none _
      | refine LeO.ite ?_ ?_
      | refine LeO.bind ?_ (fun _ => ?_)
theorem impl_BestGo.mono : ∀ a0 a1 a2 k, LeO (impl_BestGo.f k a0 a1 a2) (impl_BestGo.f (k + 1) a0 a1 a2) := by
  intro a0 a1 a2 k
  have ih0 := impl_BestGo.mono_l k
  unfold impl_BestGo.f
  repeat' first
      | (with_reducible exact ih0 _ _ _ _ _ _ _)
      | (with_reducible exact impl_NextAsk.mono _ _ _ _)
      | (with_reducible exact LeO.refl _)
      | (with_reducible exact LeO.none _)
      | (with_reducible refine LeO.ite ?_ ?_)
      | (with_reducible refine LeO.bind ?_ (fun _ => ?_))
      | exact ih0 _ _ _ _ _ _ _
      | exact impl_NextAsk.mono _ _ _ _
      | exact LeO.none _
      | refine LeO.ite ?_ ?_
      | refine LeO.bind ?_ (fun _ => ?_)
set_option maxHeartbeats 8000000 in
set_option maxRecDepth 100000 in
theorem impl_BestGo.calls (k : Nat) (A0 : Option Addr) (c0 : Nat) (l0 : List ByteArray) (A1 : Option Addr) (c1 : Nat) (l1 : List ByteArray) (a2 : Int) (r : Int) (w : World) (hr0 : Kd.C Kd.string w A0 l0.length l0) (hc0 : l0.length ≤ c0) (hr1 : Kd.C Kd.string w A1 l1.length l1) (hc1 : l1.length ≤ c1) (h : impl_BestGo.f k l0 l1 a2 = some r) :
    Calls Try.prog 142 #[.slice A0 l0.length c0, .slice A1 l1.length c1, .int .i64 a2] w fun e w' => e = .returned (.int .i64 r) ∧ Below w.heap.size w w' := by
  have HR0 := Aside0.mk hr0
  have HC0 := Aside0.mk hc0
  clear hr0 hc0
  have HR1 := Aside0.mk hr1
  have HC1 := Aside0.mk hc1
  clear hr1 hc1
  have HB := Aside0.mk (Below.refl w.heap.size w)
  have H : (impl_BestGo.l0 k l0 a2 (-1) (-1) l1 (l1.length : Int) 0) = some r := h
  clear h
  have H' := Aside0.mk H
  clear H
  go_enter Try.func142, Try.ntmps142
  go_wp2
  go_loopg [7, 8, 14] k (fun kq v7 v8 v14 w' => ∃ (x7_1 : Int) (x8_1 : Int) (x14_1 : Int), v7 = .int .i64 x7_1 ∧ v8 = .int .i64 x8_1 ∧ v14 = .int .i64 x14_1 ∧ Aside0 (impl_BestGo.l0 kq l0 a2 x7_1 x8_1 l1 (l1.length : Int) x14_1 = some r) ∧ Aside0 (kq ≤ k) ∧ Aside0 (Below w.heap.size w w'))
  case atStart => exact ⟨((-1)), ((-1)), (0), (by first | rfl | (simp; done) | (simp [*]; done)), (by first | rfl | (simp; done) | (simp [*]; done)), (by first | rfl | (simp; done) | (simp [*]; done)), H', ⟨Nat.le_refl _⟩, ⟨by repeat (first | (with_reducible first | exact HB.out | apply below_alloc | apply pw_below_drewN | apply below_drew1) | exact HB.out)⟩⟩
  case round =>
    clear H'
    try clear c1
    try clear p2
    obtain ⟨x7_1, x8_1, x14_1, rfl, rfl, rfl, HA, HK1, HB⟩ := hrel
    cases gk with
    | zero => exact absurd HA.out (by simp [impl_BestGo.l0])
    | succ k1 =>
      have H := HA.out
      clear HA
      simp only [impl_BestGo.l0] at H
      by_cases c4 : x14_1 < (l1.length : Int)
      · rw [if_pos c4] at H
        have c4b0 : decide (x14_1 < (l1.length : Int)) = true := decide_eq_true c4
        clear c4
        by_cases c5 : 0 ≤ x14_1
        · rw [if_pos c5] at H
          have c5b0 : decide (0 ≤ x14_1) = true := decide_eq_true c5
          clear c5
          by_cases c6 : x14_1 < (l1.length : Int)
          · rw [if_pos c6] at H
            have c6b0 : decide (x14_1 < (l1.length : Int)) = true := decide_eq_true c6
            clear c6
            replace H := Option.bind_eq_some_iff.mp H
            obtain ⟨t343, A70, H⟩ := H
            replace H : (if t343 > x8_1 then (impl_BestGo.l0 k1 l0 a2 x14_1 t343 l1 (l1.length : Int) (wrap64 (x14_1 + 1))) else (impl_BestGo.l0 k1 l0 a2 x7_1 x8_1 l1 (l1.length : Int) (wrap64 (x14_1 + 1)))) = some r := H
            have A7 := Aside0.mk A70
            clear A70
            by_cases c8 : t343 > x8_1
            · rw [if_pos c8] at H
              have c8b0 : decide (x8_1 < t343) = true := decide_eq_true c8
              clear c8
              have H' := Aside0.mk H
              clear H
              have p342 : 0 ≤ (x14_1 : Int) := of_decide_eq_true (by first | (with_reducible assumption) | assumption)
              have q342 : x14_1 < (l1.length : Int) := of_decide_eq_true (by first | (with_reducible assumption) | assumption)
              obtain ⟨ad342, e342, hx342_0⟩ := Kd.at_string HR1.out x14_1 p342 q342
              cases e342
              replace hx342_0 := (HB.out.cell (World.block_lt_of_cell? w _ hx342_0)).trans hx342_0
              replace p342 := eq_true p342
              replace q342 := eq_true q342
              go_wp2_with (first | ((with_reducible refine gate_callee (f := 185) rfl ?_); refine goesL_ (some 22) rfl rfl Try.func185 (by kernel_rfl) rfl #[.slice A0 l0.length c0, .string (rdOf ByteArray.empty l1 x14_1), .int .i64 a2] rfl (by (try simp only [List.map_toArray, List.map_cons, List.map_nil]); first | done | rfl | (simp only [List.length_drop, List.length_take]; rfl)) ?_; (with_reducible refine (impl_NextAsk.calls k1 _ _ l0 (rdOf ByteArray.empty l1 x14_1) a2 t343 _ ?side1 ?side2 A7.out).mono ?_); (case side1 => repeat (first | exact (Kd.C_below HR0.out HB.out) | (with_reducible refine Kd.C_alloc ?_ _) | (with_reducible refine Kd.C_drewN ?_ _) | (with_reducible refine Kd.C_drew ?_))); (case side2 => exact HC0.out); rintro e w9 ⟨rfl, hb⟩; refine ⟨_, rfl, ?_⟩; have n0_ := Aside0.mk (below_step (by repeat (first | (with_reducible first | exact HB.out | apply below_alloc | apply pw_below_drewN | apply below_drew1) | exact HB.out)) hb); clear HB; have HB := n0_; clear n0_; (try clear hb); (try clear hb2); (try clear hk); (try clear hi)))
              go_roundg k1
              case measure => have := HK1.out; omega
              case rel => exact ⟨(x14_1), (t343), (wrap64 (x14_1 + 1)), (by first | rfl | (simp; done) | (simp [*]; done)), (by first | rfl | (simp; done) | (simp [*]; done)), (by first | rfl | (simp; done) | (simp [*]; done)), H', ⟨by have := HK1.out; omega⟩, ⟨by repeat (first | (with_reducible first | exact HB.out | apply below_alloc | apply pw_below_drewN | apply below_drew1) | exact HB.out)⟩⟩
            · rw [if_neg c8] at H
              have c8b0 : decide (x8_1 < t343) = false := decide_eq_false c8
              clear c8
              have H' := Aside0.mk H
              clear H
              have p342 : 0 ≤ (x14_1 : Int) := of_decide_eq_true (by first | (with_reducible assumption) | assumption)
              have q342 : x14_1 < (l1.length : Int) := of_decide_eq_true (by first | (with_reducible assumption) | assumption)
              obtain ⟨ad342, e342, hx342_0⟩ := Kd.at_string HR1.out x14_1 p342 q342
              cases e342
              replace hx342_0 := (HB.out.cell (World.block_lt_of_cell? w _ hx342_0)).trans hx342_0
              replace p342 := eq_true p342
              replace q342 := eq_true q342
              go_wp2_with (first | ((with_reducible refine gate_callee (f := 185) rfl ?_); refine goesL_ (some 22) rfl rfl Try.func185 (by kernel_rfl) rfl #[.slice A0 l0.length c0, .string (rdOf ByteArray.empty l1 x14_1), .int .i64 a2] rfl (by (try simp only [List.map_toArray, List.map_cons, List.map_nil]); first | done | rfl | (simp only [List.length_drop, List.length_take]; rfl)) ?_; (with_reducible refine (impl_NextAsk.calls k1 _ _ l0 (rdOf ByteArray.empty l1 x14_1) a2 t343 _ ?side1 ?side2 A7.out).mono ?_); (case side1 => repeat (first | exact (Kd.C_below HR0.out HB.out) | (with_reducible refine Kd.C_alloc ?_ _) | (with_reducible refine Kd.C_drewN ?_ _) | (with_reducible refine Kd.C_drew ?_))); (case side2 => exact HC0.out); rintro e w10 ⟨rfl, hb⟩; refine ⟨_, rfl, ?_⟩; have n0_ := Aside0.mk (below_step (by repeat (first | (with_reducible first | exact HB.out | apply below_alloc | apply pw_below_drewN | apply below_drew1) | exact HB.out)) hb); clear HB; have HB := n0_; clear n0_; (try clear hb); (try clear hb2); (try clear hk); (try clear hi)))
              go_roundg k1
              case measure => have := HK1.out; omega
              case rel => exact ⟨(x7_1), (x8_1), (wrap64 (x14_1 + 1)), (by first | rfl | (simp; done) | (simp [*]; done)), (by first | rfl | (simp; done) | (simp [*]; done)), (by first | rfl | (simp; done) | (simp [*]; done)), H', ⟨by have := HK1.out; omega⟩, ⟨by repeat (first | (with_reducible first | exact HB.out | apply below_alloc | apply pw_below_drewN | apply below_drew1) | exact HB.out)⟩⟩
          · rw [if_neg c6] at H
            exact absurd H (by simp)
        · rw [if_neg c5] at H
          exact absurd H (by simp)
      · rw [if_neg c4] at H
        have c4b0 : decide (x14_1 < (l1.length : Int)) = false := decide_eq_false c4
        clear c4
        obtain rfl := Option.some.inj H
        go_wp2
        go_ret
        exact ⟨by first | rfl | (simp [errW_none, errW_some] <;> rfl) | (simp [*, errW_none, errW_some] <;> rfl), by repeat (first | (with_reducible first | exact HB.out | apply below_alloc | apply pw_below_drewN | apply below_drew1) | exact HB.out)⟩

end Go.Proofs.Ytkaahabgbngodaa.Core

namespace Go.Proofs.Ytkaahabgbngodaa.Core
open Go.RowKit Go.Proofs.YtkaahabgbngodaaW.PrintWords Go.Proofs.YtkaahabgbngodaaW.PrintLast Go.Proofs.YtkaahabgbngodaaW.PrintMore
attribute [local go_sem] max2_int min2_int max_two min_two max_three min_three max_four min_four   -- for this text's walks alone
set_option linter.unusedVariables false
set_option linter.unusedSimpArgs false

/-! ### slices_Delete_string_string: function 143 -/
-- IMPORT Derived.Deep.RegionLaw
def slices_Delete_string_string.f (l0 : List ByteArray) (a1 a2 : Int) : Option (List ByteArray) := if 0 ≤ a1 ∧ a1 < (l0.length : Int) ∧ a2 = a1 + 1 then some (l0.eraseIdx a1.toNat) else none
/-- A row of texts stays a row when spare cells behind it are written. -/
theorem R_spareS {w : World} {base m g c off : Nat} {xs : List ByteArray} {ok : Nat → Prop} (vs : List Value) (h : Kd.R Kd.string 9 w base ok (.slice (some ⟨g, 0, none⟩) m c) xs) (ho : m * 1 ≤ off) (hfit : off + vs.length ≤ c * 1) :
    Kd.R Kd.string 9 (w.setCells g off vs) base ok (.slice (some ⟨g, 0, none⟩) m c) xs := by
  have hm := (Kd.R_reads' h).1
  obtain ⟨h0, inner, hown, hr⟩ := h
  rcases hown.2 with ⟨hv, _⟩ | ⟨g', cap', cur, hv, hb, hh, hcap, hcm, hcs, htake⟩
  · cases hv
  · injection hv with ha hlen hc
    injection ha with ha
    injection ha with hg
    subst hg; subst hc
    obtain ⟨cur', h3, h4, h5⟩ := setCells_row vs off w cur hh (by rw [hcs]; exact hfit)
    refine ⟨h0, inner, ⟨hown.1, .inr ⟨g, c, cur', by rw [hlen], hb, h3, hcap, hcm, by rw [h4, hcs], ?_⟩⟩, hr.imp_ (fun p q hp => Kd.string.M_move (fun k' hk' => setCells_far vs off k' (fun he => hk'.2 (by simp [Value.ownBlock, he]))) hp)⟩
    rw [h5]
    have hk : Kd.string.sz = 1 := rfl
    rw [hk] at htake ⊢
    have hl : cur.toList.length = c * 1 := by rw [Array.length_toList, hcs, hk]
    rw [List.append_assoc, List.take_append_of_le_length (by rw [List.length_take, hl, Nat.le_min]; omega), List.take_take, Nat.min_eq_left (by omega), htake]
theorem own_cellsS {w : World} {base m g c : Nat} {xs : List ByteArray} {ok : Nat → Prop} (h : Kd.R Kd.string 9 w base ok (.slice (some ⟨g, 0, none⟩) m c) xs) : ∃ cur, w.heap[g]? = some (.cells cur 9 (0, 0)) ∧ cur.size = c * 1 := by
  obtain ⟨_, inner, hown, _⟩ := h
  rcases hown.2 with ⟨hv, _⟩ | ⟨g', cap', cur, hv, hb, hh, _, hcm, hcs, htake⟩
  · cases hv
  · injection hv with ha _ hc
    injection ha with ha
    injection ha with hg
    subst hg; subst hc
    exact ⟨cur, hh, hcs⟩
set_option maxHeartbeats 8000000 in
set_option maxRecDepth 100000 in
theorem slices_Delete_string.mine (g m c k base : Nat) (xs : List ByteArray) (ok : Nat → Prop) (w0 w : World) (HO : Kd.R Kd.string 9 w base ok (.slice (some ⟨g,0,none⟩) (m + 1) c) xs) (hk : k < m + 1) (HB : Below base w0 w) (hbase : base ≤ w.heap.size) :
    Calls Try.prog 143 #[.slice (some ⟨g,0,none⟩) (m + 1) c, .int .i64 k, .int .i64 (k+1)] w fun e w' => e = .returned (.slice (some ⟨g,0,none⟩) m c) ∧ Kd.R Kd.string 9 w' base ok (.slice (some ⟨g,0,none⟩) m c) (xs.eraseIdx k) ∧ Below base w0 w' ∧ w.grownBy w' (some g) := by
  obtain ⟨hn, hnc, hC⟩ := Kd.R_reads' HO
  have hm : xs.length ≤ 9223372036854775807 := hC.2.1
  have HO1 := Aside0.mk HO
  have HB1 := Aside0.mk HB
  have HN := Aside0.mk hn
  have hbg := Aside0.mk (Kd.R_base HO g (by simp [Value.ownBlock]))
  clear HO HB hC
  have hm2 : m + 1 ≤ 9223372036854775807 := by omega
  clear hn hm
  go_enter Try.func143, Try.ntmps143
  go_wp2
  have e1 : (k ≤ c) = True := eq_true (by omega)
  have e2 : (0 ≤ (k : Int) + 1) = True := eq_true (by omega)
  have e3 : ((k : Int) + 1 ≤ (m : Int) + 1) = True := eq_true (by omega)
  have hA : (if c = k + 1 then some (⟨g, 0, none⟩ : Addr) else some ⟨g, k + 1, none⟩) = if c = k + 1 then some ⟨g, 0, none⟩ else (some (⟨g, 0, none⟩ : Addr)).map (·.add ((k + 1) * Kd.string.sz)) := by rw [Option.map_some, add_plain, show Kd.string.sz = 1 from rfl, Nat.mul_one]
  have HA := Aside0.mk hA
  clear hA
  have hi : (Try.prog.info? 9).map (·.size) = some Kd.string.sz := by kernel_rfl
  have HI := Aside0.mk hi
  clear hi
  have HM := Aside0.mk (show m - k = m + 1 - (k + 1) by omega)
  go_region_law (refine Kd.R_delete_step Kd.string (w0 := w0) base rfl (.tmp 22) (.tmp 25) 23 9 rfl Try.underlying23 HI.out (g := g) (n := m + 1) (c := c) (k := k) (xs := xs) (ok := ok) rfl rfl HA.out HM.out (Kd.R_drew HO1.out) hk HB1.out.drew hbase (fun w1 ho hb hg => ?_))
  obtain ⟨cur, hh, hcs⟩ := own_cellsS ho
  have ho1 := Aside0.mk ho
  have hb1 := Aside0.mk hb
  have hg1 := Aside0.mk hg
  have hh1 := Aside0.mk hh
  clear ho hb hg e1 e2 e3
  have hcl : (Builtin.clear_ #[23] 0 #[.slice (some ⟨g, m, none⟩) 1 (c - m)]).run Try.prog w1 = .ok (.tuple #[]) (w1.setCells g m [.string ⟨#[]⟩]) :=
    run_clear_one w1 23 9 0 (.string ⟨#[]⟩) Try.underlying23 (fun w => by kernel_rfl) (by decide) g m (c - m) (fun j hj => by rw [cell_of_row w1 g _ cur 9 (0, 0) hh]; simp [hcs]; simp [Value.cells] at hj; omega) (fun j hj => blk_frozen hh _)
  clear hh
  go_wp2
  all_goals
    try (have h' : c = k + 1 := by assumption
         subst h')
    go_ret
    obtain ⟨s1, s2, s3, s4⟩ := setCells_same g [.string ⟨#[]⟩] m w1
    have hfar : ∀ k', k' ≠ g → (w1.setCells g m [.string ⟨#[]⟩]).heap[k']? = w1.heap[k']? := fun k' hk' => setCells_far _ _ k' hk'
    refine ⟨rfl, R_spareS _ (by simpa using ho1.out) (by omega) (by simp; omega), hb1.out.trans ⟨s1, s2, s3, by rw [s4]; exact Nat.le_refl _, fun k' hk' => hfar k' (by have := hbg.out; omega)⟩, ?_⟩
    have hg2 : w.grownBy w1 (some g) := ⟨hg1.out.os, hg1.out.tape, hg1.out.output, hg1.out.size, hg1.out.block⟩
    exact hg2.trans ⟨s1, s2, s3, by rw [s4]; exact Nat.le_refl _, fun k' _ hk' => hfar k' (fun he => hk' (by rw [he]))⟩
theorem slices_Delete_string_string.own (A : Option Addr) (c base : Nat) (xs : List ByteArray) (i j : Int) (r : List ByteArray) (ok : Nat → Prop) (w0 w : World) (HO : Kd.R Kd.string 9 w base ok (.slice A xs.length c) xs) (h : slices_Delete_string_string.f xs i j = some r) (HB : Below base w0 w) (hbase : base ≤ w.heap.size) :
    Calls Try.prog 143 #[.slice A xs.length c, .int .i64 i, .int .i64 j] w fun e w' => ∃ v : Value, e = .returned v ∧ Kd.R Kd.string 9 w' base ok v r ∧ Below base w0 w' ∧ w.grownBy w' (Value.slice A xs.length c).ownBlock := by
  unfold slices_Delete_string_string.f at h
  by_cases hc : 0 ≤ i ∧ i < (xs.length : Int) ∧ j = i + 1
  · rw [if_pos hc] at h
    obtain rfl := Option.some.inj h
    obtain ⟨h0, h1, rfl⟩ := hc
    obtain ⟨k, rfl⟩ : ∃ k : Nat, i = (k : Int) := ⟨i.toNat, by omega⟩
    obtain ⟨m, hm⟩ : ∃ m, xs.length = m + 1 := ⟨xs.length - 1, by omega⟩
    obtain ⟨g, rfl⟩ : ∃ g, A = some ⟨g, 0, none⟩ := by
      obtain ⟨_, inner, hown, _⟩ := HO
      rcases hown.2 with ⟨hv, _⟩ | ⟨g', cap', cur, hv, _⟩
      · injection hv with _ hl; omega
      · injection hv with ha; exact ⟨g', ha⟩
    rw [hm] at HO ⊢
    exact (slices_Delete_string.mine g m c k base xs ok w0 w HO (by omega) HB hbase).mono (fun e w' ⟨e1, e2, e3, e4⟩ => ⟨_, e1, e2, e3, e4⟩)
  · rw [if_neg hc] at h
    exact absurd h (by simp)

end Go.Proofs.Ytkaahabgbngodaa.Core

namespace Go.Proofs.Ytkaahabgbngodaa.Core
open Go.RowKit Go.Proofs.YtkaahabgbngodaaW.PrintWords Go.Proofs.YtkaahabgbngodaaW.PrintLast Go.Proofs.YtkaahabgbngodaaW.PrintMore
attribute [local go_sem] max2_int min2_int max_two min_two max_three min_three max_four min_four   -- for this text's walks alone
set_option linter.unusedVariables false
set_option linter.unusedSimpArgs false

/-! ### impl_BestHits: function 84 -/
mutual
def impl_BestHits.j0 : Nat → List ByteArray → Int → Bool → Option (List Bool)
  | 0, _, _, _ => none
  | k + 1, x0, x1, x18 => if x18 = true then (some ([] : List Bool)) else (impl_BestHits.l0 k x0 x1 (([] : List Bool)) (([] : List ByteArray)) x0 (x0.length : Int) 0)
def impl_BestHits.l0 : Nat → List ByteArray → Int → List Bool → List ByteArray → List ByteArray → Int → Int → Option (List Bool)
  | 0, _, _, _, _, _, _, _ => none
  | k + 1, x0, x1, x5, x6, x21, x22, x23 => if x23 < x22 then (if 0 ≤ x23 then (if x23 < (x21.length : Int) then ((slices_Contains_string_string.f k x6 (rdOf ByteArray.empty x21 x23)).bind fun t353 => (if x5.length < 140737488355328 then ((some (x5 ++ [t353] : List Bool)).bind fun y354 => (if t353 = true then (impl_BestHits.l0 k x0 x1 y354 x6 x21 x22 (wrap64 (x23 + 1))) else (if (x6.length : Int) = x1 then ((impl_BestGo.f k x0 x6 (wrap64 (x23 + 1))).bind fun t357 => ((slices_Delete_string_string.f x6 t357 (wrap64 (t357 + 1))).bind fun t358 => (if t358.length < 8796093022208 then (impl_BestHits.l0 k x0 x1 y354 (t358 ++ [rdOf ByteArray.empty x21 x23]) x21 x22 (wrap64 (x23 + 1))) else (none)))) else (if x6.length < 8796093022208 then (impl_BestHits.l0 k x0 x1 y354 (x6 ++ [rdOf ByteArray.empty x21 x23]) x21 x22 (wrap64 (x23 + 1))) else (none))))) else (none))) else (none)) else (none)) else (some x5)
end
def impl_BestHits.f (k : Nat) (l0 : List ByteArray) (a1 : Int) : Option (List Bool) := (impl_AsksOk.f k l0).bind fun t344 => (if t344 = true then ((impl_within.f a1 1 60).bind fun t345 => (impl_BestHits.j0 k l0 a1 (!t345))) else (impl_BestHits.j0 k l0 a1 true))
theorem impl_BestHits.mono_l : ∀ k, (∀ y0 y1 y2, LeO (impl_BestHits.j0 k y0 y1 y2) (impl_BestHits.j0 (k + 1) y0 y1 y2)) ∧ (∀ y0 y1 y2 y3 y4 y5 y6, LeO (impl_BestHits.l0 k y0 y1 y2 y3 y4 y5 y6) (impl_BestHits.l0 (k + 1) y0 y1 y2 y3 y4 y5 y6))
  | 0 => ⟨fun _ _ _ r h => by simp [impl_BestHits.j0] at h, fun _ _ _ _ _ _ _ r h => by simp [impl_BestHits.l0] at h⟩
  | k + 1 => by
    obtain ⟨ih0, ih1⟩ := impl_BestHits.mono_l k
    refine ⟨?_, ?_⟩
    · intro y0 y1 y2
      unfold impl_BestHits.j0
      repeat' first
      | (with_reducible exact ih0 _ _ _)
      | (with_reducible exact ih1 _ _ _ _ _ _ _)
      | (with_reducible exact impl_AsksOk.mono _ _)
      | (with_reducible exact impl_BestGo.mono _ _ _ _)
      | (with_reducible exact slices_Contains_string_string.mono _ _ _)
      | (with_reducible exact LeO.refl _)
      | (with_reducible exact LeO.none _)
      | (with_reducible refine LeO.ite ?_ ?_)
      | (with_reducible refine LeO.bind ?_ (fun _ => ?_))
      | exact ih0 _ _ _
      | exact ih1 _ _ _ _ _ _ _
      | exact impl_AsksOk.mono _ _
      | exact impl_BestGo.mono _ _ _ _
      | exact slices_Contains_string_string.mono _ _ _
      | exact LeO.none _
      | refine LeO.ite ?_ ?_
      | refine LeO.bind ?_ (fun _ => ?_)
    · intro y0 y1 y2 y3 y4 y5 y6
      unfold impl_BestHits.l0
      repeat' first
      | (with_reducible exact ih0 _ _ _)
      | (with_reducible exact ih1 _ _ _ _ _ _ _)
      | (with_reducible exact impl_AsksOk.mono _ _)
      | (with_reducible exact impl_BestGo.mono _ _ _ _)
      | (with_reducible exact slices_Contains_string_string.mono _ _ _)
      | (with_reducible exact LeO.refl _)
      | (with_reducible exact LeO.none _)
      | (with_reducible refine LeO.ite ?_ ?_)
      | (with_reducible refine LeO.bind ?_ (fun _ => ?_))
      | exact ih0 _ _ _
      | exact ih1 _ _ _ _ _ _ _
      | exact impl_AsksOk.mono _ _
      | exact impl_BestGo.mono _ _ _ _
      | exact slices_Contains_string_string.mono _ _ _
      | exact LeO.none _
      | refine LeO.ite ?_ ?_
      | refine LeO.bind ?_ (fun _ => ?_)
theorem impl_BestHits.mono : ∀ a0 a1 k, LeO (impl_BestHits.f k a0 a1) (impl_BestHits.f (k + 1) a0 a1) := by
  intro a0 a1 k
  obtain ⟨ih0, ih1⟩ := impl_BestHits.mono_l k
  unfold impl_BestHits.f
  repeat' first
      | (with_reducible exact ih0 _ _ _)
      | (with_reducible exact ih1 _ _ _ _ _ _ _)
      | (with_reducible exact impl_AsksOk.mono _ _)
      | (with_reducible exact impl_BestGo.mono _ _ _ _)
      | (with_reducible exact slices_Contains_string_string.mono _ _ _)
      | (with_reducible exact LeO.refl _)
      | (with_reducible exact LeO.none _)
      | (with_reducible refine LeO.ite ?_ ?_)
      | (with_reducible refine LeO.bind ?_ (fun _ => ?_))
      | exact ih0 _ _ _
      | exact ih1 _ _ _ _ _ _ _
      | exact impl_AsksOk.mono _ _
      | exact impl_BestGo.mono _ _ _ _
      | exact slices_Contains_string_string.mono _ _ _
      | exact LeO.none _
      | refine LeO.ite ?_ ?_
      | refine LeO.bind ?_ (fun _ => ?_)
set_option maxHeartbeats 8000000 in
set_option maxRecDepth 100000 in
theorem impl_BestHits.calls (k : Nat) (A0 : Option Addr) (c0 : Nat) (l0 : List ByteArray) (a1 : Int) (r : List Bool) (w : World) (hr0 : Kd.C Kd.string w A0 l0.length l0) (hc0 : l0.length ≤ c0) (h : impl_BestHits.f k l0 a1 = some r) :
    Calls Try.prog 84 #[.slice A0 l0.length c0, .int .i64 a1] w fun e w' => ∃ v0_ : Value, e = .returned (v0_) ∧ Kd.R Kd.bool 4 w' w.heap.size (fun _ => True) v0_ r ∧ Below w.heap.size w w' := by
  have HR0 := Aside0.mk hr0
  have HC0 := Aside0.mk hc0
  clear hr0 hc0
  have HB := Aside0.mk (Below.refl w.heap.size w)
  have H : ((impl_AsksOk.f k l0).bind fun t344 => (if t344 = true then ((impl_within.f a1 1 60).bind fun t345 => (impl_BestHits.j0 k l0 a1 (!t345))) else (impl_BestHits.j0 k l0 a1 true))) = some r := h
  clear h
  have HC3 := Aside0.mk H
  clear H
  go_enter Try.func84, Try.ntmps84
  go_upto_region 1 with (fail)
  go_cut [18] (fun v18 wc => ∃ (kq : Nat) (x18_2 : Bool), v18 = .bool x18_2 ∧ Aside0 (impl_BestHits.j0 kq l0 a1 x18_2 = some r) ∧ Aside0 (kq ≤ k) ∧ Aside0 (Below w.heap.size w wc))
  case first =>
    have H := HC3.out
    clear HC3
    replace H := Option.bind_eq_some_iff.mp H
    obtain ⟨t344, A40, H⟩ := H
    replace H : (if t344 = true then ((impl_within.f a1 1 60).bind fun t345 => (impl_BestHits.j0 k l0 a1 (!t345))) else (impl_BestHits.j0 k l0 a1 true)) = some r := H
    have A4 := Aside0.mk A40
    clear A40
    by_cases c5 : t344 = true
    · subst c5
      have H1 : ((impl_within.f a1 1 60).bind fun t345 => (impl_BestHits.j0 k l0 a1 (!t345))) = some r := by rw [if_pos rfl] at H; exact H
      clear H
      have H := H1
      clear H1
      replace H := Option.bind_eq_some_iff.mp H
      obtain ⟨t345, A60, H⟩ := H
      replace H : (impl_BestHits.j0 k l0 a1 (!t345)) = some r := H
      have A6 := Aside0.mk A60
      clear A60
      have H' := Aside0.mk H
      clear H
      go_wp2_with (first | ((with_reducible refine gate_callee (f := 37) rfl ?_); refine goesL_ (some 12) rfl rfl Try.func37 (by kernel_rfl) rfl #[.slice A0 l0.length c0] rfl (by (try simp only [List.map_toArray, List.map_cons, List.map_nil]); first | done | rfl | (simp only [List.length_drop, List.length_take]; rfl)) ?_; (with_reducible refine (impl_AsksOk.calls k _ _ l0 true _ ?side1 ?side2 A4.out).mono ?_); (case side1 => repeat (first | exact (Kd.C_below HR0.out HB.out) | (with_reducible refine Kd.C_alloc ?_ _) | (with_reducible refine Kd.C_drewN ?_ _) | (with_reducible refine Kd.C_drew ?_))); (case side2 => exact HC0.out); rintro e w7 ⟨rfl, hb⟩; refine ⟨_, rfl, ?_⟩; have n0_ := Aside0.mk (below_step (by repeat (first | (with_reducible first | exact HB.out | apply below_alloc | apply pw_below_drewN | apply below_drew1) | exact HB.out)) hb); clear HB; have HB := n0_; clear n0_; (try clear hb); (try clear hb2); (try clear hk); (try clear hi)) | (go_at_call 82; (with_reducible refine (impl_within.calls a1 1 60 t345 _ A6.out).mono ?_); rintro e w' ⟨rfl, ⟨nd, rfl⟩⟩))
      go_meet
      case rel => exact ⟨_, (!t345), (by first | rfl | (simp; done) | (simp [*]; done)), H', ⟨by first | omega | exact Nat.le_refl _⟩, ⟨by repeat (first | (with_reducible first | exact HB.out | apply below_alloc | apply pw_below_drewN | apply below_drew1) | exact HB.out)⟩⟩
    · replace c5 := Bool.eq_false_iff.mpr c5
      subst c5
      have H1 : (impl_BestHits.j0 k l0 a1 true) = some r := by rw [if_neg (show ¬ (false = true) by decide)] at H; exact H
      clear H
      have H := H1
      clear H1
      have H' := Aside0.mk H
      clear H
      go_wp2_with (first | ((with_reducible refine gate_callee (f := 37) rfl ?_); refine goesL_ (some 12) rfl rfl Try.func37 (by kernel_rfl) rfl #[.slice A0 l0.length c0] rfl (by (try simp only [List.map_toArray, List.map_cons, List.map_nil]); first | done | rfl | (simp only [List.length_drop, List.length_take]; rfl)) ?_; (with_reducible refine (impl_AsksOk.calls k _ _ l0 false _ ?side1 ?side2 A4.out).mono ?_); (case side1 => repeat (first | exact (Kd.C_below HR0.out HB.out) | (with_reducible refine Kd.C_alloc ?_ _) | (with_reducible refine Kd.C_drewN ?_ _) | (with_reducible refine Kd.C_drew ?_))); (case side2 => exact HC0.out); rintro e w8 ⟨rfl, hb⟩; refine ⟨_, rfl, ?_⟩; have n0_ := Aside0.mk (below_step (by repeat (first | (with_reducible first | exact HB.out | apply below_alloc | apply pw_below_drewN | apply below_drew1) | exact HB.out)) hb); clear HB; have HB := n0_; clear n0_; (try clear hb); (try clear hb2); (try clear hk); (try clear hi)))
      go_meet
      case rel => exact ⟨_, (true), (by first | rfl | (simp; done) | (simp [*]; done)), H', ⟨by first | omega | exact Nat.le_refl _⟩, ⟨by repeat (first | (with_reducible first | exact HB.out | apply below_alloc | apply pw_below_drewN | apply below_drew1) | exact HB.out)⟩⟩
  case rest =>
    clear HC3
    try clear p2
    try clear c3
    try clear c5
    try clear c8
    obtain ⟨kq, x18_2, rfl, HA, HJ2, HB⟩ := hcut
    cases kq with
    | zero => exact absurd HA.out (by simp [impl_BestHits.j0])
    | succ kj2 =>
      have H := HA.out
      clear HA
      simp only [impl_BestHits.j0] at H
      by_cases c9 : x18_2 = true
      · subst c9
        have H1 : (some ([] : List Bool)) = some r := by rw [if_pos rfl] at H; exact H
        clear H
        have H := H1
        clear H1
        obtain rfl := Option.some.inj H
        go_wp2
        go_ret
        exact ⟨_, by first | rfl | (simp [errW_none, errW_some] <;> rfl) | (simp [*, errW_none, errW_some] <;> rfl), by first | exact Kd.R_nil _ _ _ _ _ | exact Kd.N_nil _ _ _ _ _ | exact Kd.V_nil _ _ _ _ _ | exact Kd.Q_nil _ _ _ _ _ | exact Kd.S_nil _ _ _ _ _, by repeat (first | (with_reducible first | exact HB.out | apply below_alloc | apply pw_below_drewN | apply below_drew1) | exact HB.out)⟩
      · replace c9 := Bool.eq_false_iff.mpr c9
        subst c9
        have H1 : (impl_BestHits.l0 kj2 l0 a1 (([] : List Bool)) (([] : List ByteArray)) l0 (l0.length : Int) 0) = some r := by rw [if_neg (show ¬ (false = true) by decide)] at H; exact H
        clear H
        have H := H1
        clear H1
        obtain ⟨y346, hy346⟩ : ∃ y_ : List Bool, y_ = (([] : List Bool)) := ⟨_, rfl⟩
        replace H : (impl_BestHits.l0 kj2 l0 a1 y346 (([] : List ByteArray)) l0 (l0.length : Int) 0) = some r := by first | (rw [hy346]; with_reducible exact H) | (have H2_ := (Option.bind_some _ _).symm.trans H; rw [hy346]; with_reducible exact H2_) | (have H2_ := (Option.bind_some _ _).symm.trans H; with_reducible exact H2_) | with_reducible exact H | (rw [hy346]; exact H) | exact H
        have Ny346 := Aside0.mk hy346
        clear hy346
        obtain ⟨y349, hy349⟩ : ∃ y_ : List ByteArray, y_ = (([] : List ByteArray)) := ⟨_, rfl⟩
        replace H : (impl_BestHits.l0 kj2 l0 a1 y346 y349 l0 (l0.length : Int) 0) = some r := by first | (rw [hy349]; with_reducible exact H) | (have H2_ := (Option.bind_some _ _).symm.trans H; rw [hy349]; with_reducible exact H2_) | (have H2_ := (Option.bind_some _ _).symm.trans H; with_reducible exact H2_) | with_reducible exact H | (rw [hy349]; exact H) | exact H
        have Ny349 := Aside0.mk hy349
        clear hy349
        have H' := Aside0.mk H
        clear H
        go_wp2_with (first | ((with_reducible refine gate_dst (N := 19) rfl ?_); refine Kd.R_lit Kd.bool _ 4 ?hg (N := 19) ?hd (xs := ([] : List Bool)) (inner := []) (ok := fun _ => True) (okp := fun _ => True) ?hr ?hp (fun _ hk => hk) trivial (Below.refl _ _) (Nat.le_refl _) (by simp) ?_; (case hd => rfl); (case hg => rfl); (case hr => first | (go_simp; done) | (go_simp; rfl)); (case hp => exact (Reps.none _ _)); intro v347 w10 ho11 hb hg_ hnew_; clear hg_ hnew_; (first | rw [← Ny346.out] at ho11 | (simp only [Int.reduceToNat] at ho11; rw [← Ny346.out] at ho11)); have n0_ := Aside0.mk (Kd.R_lower ho11 (below_size (by repeat (first | (with_reducible first | exact HB.out | apply below_alloc | apply pw_below_drewN | apply below_drew1) | exact HB.out)))); have n1_ := Aside0.mk (below_step (by repeat (first | (with_reducible first | exact HB.out | apply below_alloc | apply pw_below_drewN | apply below_drew1) | exact HB.out)) hb); clear HB; have HO348 := n0_; have HB := n1_; clear n0_ n1_; clear hb ho11) | ((with_reducible refine gate_dst (N := 20) rfl ?_); refine Kd.R_lit Kd.string _ 9 ?hg (N := 20) ?hd (xs := ([] : List ByteArray)) (inner := []) (ok := fun _ => True) (okp := fun _ => True) ?hr ?hp (fun _ hk => hk) trivial (Below.refl _ _) (Nat.le_refl _) (by simp) ?_; (case hd => rfl); (case hg => rfl); (case hr => first | (go_simp; done) | (go_simp; rfl)); (case hp => exact (Reps.none _ _)); intro v350 w12 ho13 hb hg_ hnew_; clear hg_ hnew_; (first | rw [← Ny349.out] at ho13 | (simp only [Int.reduceToNat] at ho13; rw [← Ny349.out] at ho13)); have n0_ := Aside0.mk (Kd.R_below (by (with_reducible repeat (first | apply Kd.R_alloc | apply Kd.R_drewN | apply Kd.R_drew)); exact HO348.out) hb); have n1_ := Aside0.mk (Kd.R_lower ho13 (below_size (by repeat (first | (with_reducible first | exact HB.out | apply below_alloc | apply pw_below_drewN | apply below_drew1) | exact HB.out)))); have n2_ := Aside0.mk (below_step (by repeat (first | (with_reducible first | exact HB.out | apply below_alloc | apply pw_below_drewN | apply below_drew1) | exact HB.out)) hb); clear HO348; clear HB; have HO348 := n0_; have HO351 := n1_; have HB := n2_; clear n0_ n1_ n2_; clear hb ho13))
        go_loopg [5, 6, 23] kj2 (fun kq v5 v6 v23 w' => ∃ (x5_2 : List Bool) (x6_2 : List ByteArray) (x23_2 : Int), v23 = .int .i64 x23_2 ∧ Aside0 (impl_BestHits.l0 kq l0 a1 x5_2 x6_2 l0 (l0.length : Int) x23_2 = some r) ∧ Aside0 (kq ≤ kj2) ∧ Aside0 (Kd.R Kd.bool 4 w' w.heap.size (fun _ => True) v5 x5_2) ∧ Aside0 (Kd.R Kd.string 9 w' w.heap.size (fun _ => True) v6 x6_2) ∧ Aside0 (Below w.heap.size w w'))
        case atStart => exact ⟨(y346), (y349), (0), (by first | rfl | (simp; done) | (simp [*]; done)), H', ⟨Nat.le_refl _⟩, ⟨by (with_reducible repeat (first | apply Kd.R_alloc | apply Kd.R_drewN | apply Kd.R_drew)); exact HO348.out⟩, ⟨by (with_reducible repeat (first | apply Kd.R_alloc | apply Kd.R_drewN | apply Kd.R_drew)); exact HO351.out⟩, ⟨by repeat (first | (with_reducible first | exact HB.out | apply below_alloc | apply pw_below_drewN | apply below_drew1) | exact HB.out)⟩⟩
        case round =>
          clear H'
          try clear p2
          try clear c3
          try clear c5
          try clear c8
          try clear c9
          try clear p2
          obtain ⟨x5_2, x6_2, x23_2, rfl, HA, HK2, HO_5, HO_6, HB⟩ := hrel
          cases gk with
          | zero => exact absurd HA.out (by simp [impl_BestHits.l0])
          | succ k2 =>
            have H := HA.out
            clear HA
            simp only [impl_BestHits.l0] at H
            by_cases c14 : x23_2 < (l0.length : Int)
            · rw [if_pos c14] at H
              have c14b0 : decide (x23_2 < (l0.length : Int)) = true := decide_eq_true c14
              clear c14
              by_cases c15 : 0 ≤ x23_2
              · rw [if_pos c15] at H
                have c15b0 : decide (0 ≤ x23_2) = true := decide_eq_true c15
                clear c15
                by_cases c16 : x23_2 < (l0.length : Int)
                · rw [if_pos c16] at H
                  have c16b0 : decide (x23_2 < (l0.length : Int)) = true := decide_eq_true c16
                  clear c16
                  replace H := Option.bind_eq_some_iff.mp H
                  obtain ⟨t353, A170, H⟩ := H
                  replace H : (if x5_2.length < 140737488355328 then ((some (x5_2 ++ [t353] : List Bool)).bind fun y354 => (if t353 = true then (impl_BestHits.l0 k2 l0 a1 y354 x6_2 l0 (l0.length : Int) (wrap64 (x23_2 + 1))) else (if (x6_2.length : Int) = a1 then ((impl_BestGo.f k2 l0 x6_2 (wrap64 (x23_2 + 1))).bind fun t357 => ((slices_Delete_string_string.f x6_2 t357 (wrap64 (t357 + 1))).bind fun t358 => (if t358.length < 8796093022208 then (impl_BestHits.l0 k2 l0 a1 y354 (t358 ++ [rdOf ByteArray.empty l0 x23_2]) l0 (l0.length : Int) (wrap64 (x23_2 + 1))) else (none)))) else (if x6_2.length < 8796093022208 then (impl_BestHits.l0 k2 l0 a1 y354 (x6_2 ++ [rdOf ByteArray.empty l0 x23_2]) l0 (l0.length : Int) (wrap64 (x23_2 + 1))) else (none))))) else (none)) = some r := H
                  have A17 := Aside0.mk A170
                  clear A170
                  by_cases c18 : x5_2.length < 140737488355328
                  · rw [if_pos c18] at H
                    have LMc18 := Aside0.mk c18
                    clear c18
                    obtain ⟨y354, hy354⟩ : ∃ y_ : List Bool, y_ = (x5_2 ++ [t353]) := ⟨_, rfl⟩
                    replace H : (if t353 = true then (impl_BestHits.l0 k2 l0 a1 y354 x6_2 l0 (l0.length : Int) (wrap64 (x23_2 + 1))) else (if (x6_2.length : Int) = a1 then ((impl_BestGo.f k2 l0 x6_2 (wrap64 (x23_2 + 1))).bind fun t357 => ((slices_Delete_string_string.f x6_2 t357 (wrap64 (t357 + 1))).bind fun t358 => (if t358.length < 8796093022208 then (impl_BestHits.l0 k2 l0 a1 y354 (t358 ++ [rdOf ByteArray.empty l0 x23_2]) l0 (l0.length : Int) (wrap64 (x23_2 + 1))) else (none)))) else (if x6_2.length < 8796093022208 then (impl_BestHits.l0 k2 l0 a1 y354 (x6_2 ++ [rdOf ByteArray.empty l0 x23_2]) l0 (l0.length : Int) (wrap64 (x23_2 + 1))) else (none)))) = some r := by first | (rw [hy354]; with_reducible exact H) | (have H2_ := (Option.bind_some _ _).symm.trans H; rw [hy354]; with_reducible exact H2_) | (have H2_ := (Option.bind_some _ _).symm.trans H; with_reducible exact H2_) | with_reducible exact H | (rw [hy354]; exact H) | exact H
                    have Ny354 := Aside0.mk hy354
                    clear hy354
                    by_cases c19 : t353 = true
                    · subst c19
                      have H1 : (impl_BestHits.l0 k2 l0 a1 y354 x6_2 l0 (l0.length : Int) (wrap64 (x23_2 + 1))) = some r := by rw [if_pos rfl] at H; exact H
                      clear H
                      have H := H1
                      clear H1
                      have H' := Aside0.mk H
                      clear H
                      have p352 : 0 ≤ (x23_2 : Int) := of_decide_eq_true (by first | (with_reducible assumption) | assumption)
                      have q352 : x23_2 < (l0.length : Int) := of_decide_eq_true (by first | (with_reducible assumption) | assumption)
                      obtain ⟨ad352, e352, hx352_0⟩ := Kd.at_string HR0.out x23_2 p352 q352
                      cases e352
                      replace hx352_0 := (HB.out.cell (World.block_lt_of_cell? w _ hx352_0)).trans hx352_0
                      replace p352 := eq_true p352
                      replace q352 := eq_true q352
                      obtain ⟨Ao20, co20, eo20⟩ := Kd.R_slice HO_6.out
                      subst eo20
                      go_wp2_with (first | ((with_reducible refine gate_callee (f := 71) rfl ?_); refine goesL_ (some 30) rfl rfl Try.func71 (by kernel_rfl) rfl #[.slice Ao20 x6_2.length co20, .string (rdOf ByteArray.empty l0 x23_2)] rfl (by (try simp only [List.map_toArray, List.map_cons, List.map_nil]); first | done | rfl | (simp only [List.length_drop, List.length_take]; rfl)) ?_; (with_reducible refine (slices_Contains_string_string.calls k2 _ _ x6_2 (rdOf ByteArray.empty l0 x23_2) true _ ?side1 ?side2 A17.out).mono ?_); (case side1 => repeat (first | exact (Kd.R_reads' HO_6.out).2.2 | (with_reducible refine Kd.C_alloc ?_ _) | (with_reducible refine Kd.C_drewN ?_ _) | (with_reducible refine Kd.C_drew ?_))); (case side2 => exact (Kd.R_reads' HO_6.out).2.1); rintro e w' ⟨rfl, ⟨nd, rfl⟩⟩; refine ⟨_, rfl, ?_⟩) | ((with_reducible refine gate_builtin (b := .append) (xs := #[.tmp 31, .tmp 33]) rfl ?_); at_builtin; refine Kd.R_append Kd.bool (w0 := w) w.heap.size rfl (.tmp 31) (.tmp 33) 59 4 (.bool false) 1 rfl Try.underlying59 info4 rfl (by decide) (by omega) u5 x5_2 true [.bool true] (fun _ => True) (fun _ => False) rfl rfl ?aP (fun _ hk => hk.elim) ?aF ?aO ?aB ?aS ?aL ?_; (case aP => exact rfl); (case aB => exact (by repeat (first | (with_reducible first | exact HB.out | apply below_alloc | apply pw_below_drewN | apply below_drew1) | exact HB.out))); (case aF => exact (fun _ _ => trivial)); (case aO => exact (by (with_reducible repeat (first | apply Kd.R_alloc | apply Kd.R_drewN | apply Kd.R_drew)); exact HO_5.out)); (case aS => exact (below_size (by repeat (first | (with_reducible first | exact HB.out | apply below_alloc | apply pw_below_drewN | apply below_drew1) | exact HB.out)))); (case aL => have := LMc18.out; omega); intro v355 w21 ho hb hg hat; rw [← Ny354.out] at ho; have n0_ := Aside0.mk (Kd.R_over' (by (with_reducible repeat (first | apply Kd.R_alloc | apply Kd.R_drewN | apply Kd.R_drew)); exact HO_6.out) (Kd.R_typed (by (with_reducible repeat (first | apply Kd.R_alloc | apply Kd.R_drewN | apply Kd.R_drew)); exact HO_5.out)) (by decide) hg); have n1_ := Aside0.mk (hb); have n2_ := Aside0.mk (ho); clear HO_6; clear HB; clear HO_5; have HO_6 := n0_; have HB := n1_; have HO356 := n2_; clear n0_ n1_ n2_; clear ho hb hg hat))
                      go_roundg k2
                      case measure => have := HJ2.out; have := HK2.out; omega
                      case rel => exact ⟨(y354), (x6_2), (wrap64 (x23_2 + 1)), (by first | rfl | (simp; done) | (simp [*]; done)), H', ⟨by have := HJ2.out; have := HK2.out; omega⟩, ⟨by (with_reducible repeat (first | apply Kd.R_alloc | apply Kd.R_drewN | apply Kd.R_drew)); exact HO356.out⟩, ⟨by (with_reducible repeat (first | apply Kd.R_alloc | apply Kd.R_drewN | apply Kd.R_drew)); exact HO_6.out⟩, ⟨by repeat (first | (with_reducible first | exact HB.out | apply below_alloc | apply pw_below_drewN | apply below_drew1) | exact HB.out)⟩⟩
                    · replace c19 := Bool.eq_false_iff.mpr c19
                      subst c19
                      have H1 : (if (x6_2.length : Int) = a1 then ((impl_BestGo.f k2 l0 x6_2 (wrap64 (x23_2 + 1))).bind fun t357 => ((slices_Delete_string_string.f x6_2 t357 (wrap64 (t357 + 1))).bind fun t358 => (if t358.length < 8796093022208 then (impl_BestHits.l0 k2 l0 a1 y354 (t358 ++ [rdOf ByteArray.empty l0 x23_2]) l0 (l0.length : Int) (wrap64 (x23_2 + 1))) else (none)))) else (if x6_2.length < 8796093022208 then (impl_BestHits.l0 k2 l0 a1 y354 (x6_2 ++ [rdOf ByteArray.empty l0 x23_2]) l0 (l0.length : Int) (wrap64 (x23_2 + 1))) else (none))) = some r := by rw [if_neg (show ¬ (false = true) by decide)] at H; exact H
                      clear H
                      have H := H1
                      clear H1
                      by_cases c22 : (x6_2.length : Int) = a1
                      · rw [if_pos c22] at H
                        have c22b0 : ((x6_2.length : Int) == a1) = true := beq_iff_eq.mpr c22
                        have c22b1 : ((x6_2.length : Int) != a1) = false := bne_eq_false_iff_eq.mpr c22
                        clear c22
                        replace H := Option.bind_eq_some_iff.mp H
                        obtain ⟨t357, A230, H⟩ := H
                        replace H : ((slices_Delete_string_string.f x6_2 t357 (wrap64 (t357 + 1))).bind fun t358 => (if t358.length < 8796093022208 then (impl_BestHits.l0 k2 l0 a1 y354 (t358 ++ [rdOf ByteArray.empty l0 x23_2]) l0 (l0.length : Int) (wrap64 (x23_2 + 1))) else (none))) = some r := H
                        have A23 := Aside0.mk A230
                        clear A230
                        replace H := Option.bind_eq_some_iff.mp H
                        obtain ⟨t358, A240, H⟩ := H
                        replace H : (if t358.length < 8796093022208 then (impl_BestHits.l0 k2 l0 a1 y354 (t358 ++ [rdOf ByteArray.empty l0 x23_2]) l0 (l0.length : Int) (wrap64 (x23_2 + 1))) else (none)) = some r := H
                        have A24 := Aside0.mk A240
                        clear A240
                        by_cases c25 : t358.length < 8796093022208
                        · rw [if_pos c25] at H
                          have LMc25 := Aside0.mk c25
                          clear c25
                          obtain ⟨y361, hy361⟩ : ∃ y_ : List ByteArray, y_ = (t358 ++ [rdOf ByteArray.empty l0 x23_2]) := ⟨_, rfl⟩
                          replace H : (impl_BestHits.l0 k2 l0 a1 y354 y361 l0 (l0.length : Int) (wrap64 (x23_2 + 1))) = some r := by first | (rw [hy361]; with_reducible exact H) | (have H2_ := (Option.bind_some _ _).symm.trans H; rw [hy361]; with_reducible exact H2_) | (have H2_ := (Option.bind_some _ _).symm.trans H; with_reducible exact H2_) | with_reducible exact H | (rw [hy361]; exact H) | exact H
                          have Ny361 := Aside0.mk hy361
                          clear hy361
                          have H' := Aside0.mk H
                          clear H
                          have p352 : 0 ≤ (x23_2 : Int) := of_decide_eq_true (by first | (with_reducible assumption) | assumption)
                          have q352 : x23_2 < (l0.length : Int) := of_decide_eq_true (by first | (with_reducible assumption) | assumption)
                          obtain ⟨ad352, e352, hx352_0⟩ := Kd.at_string HR0.out x23_2 p352 q352
                          cases e352
                          replace hx352_0 := (HB.out.cell (World.block_lt_of_cell? w _ hx352_0)).trans hx352_0
                          replace p352 := eq_true p352
                          replace q352 := eq_true q352
                          obtain ⟨Ao26, co26, eo26⟩ := Kd.R_slice HO_6.out
                          subst eo26
                          go_wp2_with (first | ((with_reducible refine gate_callee (f := 71) rfl ?_); refine goesL_ (some 30) rfl rfl Try.func71 (by kernel_rfl) rfl #[.slice Ao26 x6_2.length co26, .string (rdOf ByteArray.empty l0 x23_2)] rfl (by (try simp only [List.map_toArray, List.map_cons, List.map_nil]); first | done | rfl | (simp only [List.length_drop, List.length_take]; rfl)) ?_; (with_reducible refine (slices_Contains_string_string.calls k2 _ _ x6_2 (rdOf ByteArray.empty l0 x23_2) false _ ?side1 ?side2 A17.out).mono ?_); (case side1 => repeat (first | exact (Kd.R_reads' HO_6.out).2.2 | (with_reducible refine Kd.C_alloc ?_ _) | (with_reducible refine Kd.C_drewN ?_ _) | (with_reducible refine Kd.C_drew ?_))); (case side2 => exact (Kd.R_reads' HO_6.out).2.1); rintro e w' ⟨rfl, ⟨nd, rfl⟩⟩; refine ⟨_, rfl, ?_⟩) | ((with_reducible refine gate_builtin (b := .append) (xs := #[.tmp 31, .tmp 33]) rfl ?_); at_builtin; refine Kd.R_append Kd.bool (w0 := w) w.heap.size rfl (.tmp 31) (.tmp 33) 59 4 (.bool false) 1 rfl Try.underlying59 info4 rfl (by decide) (by omega) u5 x5_2 false [.bool false] (fun _ => True) (fun _ => False) rfl rfl ?aP (fun _ hk => hk.elim) ?aF ?aO ?aB ?aS ?aL ?_; (case aP => exact rfl); (case aB => exact (by repeat (first | (with_reducible first | exact HB.out | apply below_alloc | apply pw_below_drewN | apply below_drew1) | exact HB.out))); (case aF => exact (fun _ _ => trivial)); (case aO => exact (by (with_reducible repeat (first | apply Kd.R_alloc | apply Kd.R_drewN | apply Kd.R_drew)); exact HO_5.out)); (case aS => exact (below_size (by repeat (first | (with_reducible first | exact HB.out | apply below_alloc | apply pw_below_drewN | apply below_drew1) | exact HB.out)))); (case aL => have := LMc18.out; omega); intro v355 w27 ho hb hg hat; rw [← Ny354.out] at ho; have n0_ := Aside0.mk (Kd.R_over' (by (with_reducible repeat (first | apply Kd.R_alloc | apply Kd.R_drewN | apply Kd.R_drew)); exact HO_6.out) (Kd.R_typed (by (with_reducible repeat (first | apply Kd.R_alloc | apply Kd.R_drewN | apply Kd.R_drew)); exact HO_5.out)) (by decide) hg); have n1_ := Aside0.mk (hb); have n2_ := Aside0.mk (ho); clear HO_6; clear HB; clear HO_5; have HO_6 := n0_; have HB := n1_; have HO356 := n2_; clear n0_ n1_ n2_; clear ho hb hg hat) | ((with_reducible refine gate_callee (f := 142) rfl ?_); refine goesL_ (some 44) rfl rfl Try.func142 (by kernel_rfl) rfl #[.slice (some ad352) l0.length c0, .slice Ao26 x6_2.length co26, .int .i64 (wrap64 (x23_2 + 1))] rfl (by (try simp only [List.map_toArray, List.map_cons, List.map_nil]); first | done | rfl | (simp only [List.length_drop, List.length_take]; rfl)) ?_; (with_reducible refine (impl_BestGo.calls k2 _ _ l0 _ _ x6_2 (wrap64 (x23_2 + 1)) t357 _ ?side1 ?side2 ?side3 ?side4 A23.out).mono ?_); (case side1 => repeat (first | exact (Kd.C_below HR0.out HB.out) | (with_reducible refine Kd.C_alloc ?_ _) | (with_reducible refine Kd.C_drewN ?_ _) | (with_reducible refine Kd.C_drew ?_))); (case side2 => exact HC0.out); (case side3 => repeat (first | exact (Kd.R_reads' HO_6.out).2.2 | (with_reducible refine Kd.C_alloc ?_ _) | (with_reducible refine Kd.C_drewN ?_ _) | (with_reducible refine Kd.C_drew ?_))); (case side4 => exact (Kd.R_reads' HO_6.out).2.1); rintro e w28 ⟨rfl, hb⟩; refine ⟨_, rfl, ?_⟩; have n0_ := Aside0.mk (Kd.R_below (by (with_reducible repeat (first | apply Kd.R_alloc | apply Kd.R_drewN | apply Kd.R_drew)); exact HO_6.out) hb); have n1_ := Aside0.mk (Kd.R_below (by (with_reducible repeat (first | apply Kd.R_alloc | apply Kd.R_drewN | apply Kd.R_drew)); exact HO356.out) hb); have n2_ := Aside0.mk (below_step (by repeat (first | (with_reducible first | exact HB.out | apply below_alloc | apply pw_below_drewN | apply below_drew1) | exact HB.out)) hb); clear HO_6; clear HO356; clear HB; have HO_6 := n0_; have HO356 := n1_; have HB := n2_; clear n0_ n1_ n2_; (try clear hb); (try clear hb2); (try clear hk); (try clear hi)) | (go_at_call 143; (with_reducible refine (slices_Delete_string_string.own Ao26 co26 w.heap.size x6_2 t357 (wrap64 (t357 + 1)) t358 _ w _ HO_6.out A24.out HB.out (below_size HB.out)).mono ?_); rintro e w29 ⟨v359, rfl, ho0, hb, hg⟩; have n_HO356 := Aside0.mk (Kd.R_over' HO356.out (Kd.R_typed HO_6.out) (by decide) hg); have n_new := Aside0.mk ho0; have n_b := Aside0.mk hb; have n_nil := Aside0.mk (show Kd.R Kd.string 9 w29 w.heap.size (fun _ => True) (.slice none 0 0) [] from Kd.R_nil _ _ _ _ _); clear HO_6 HO356 HB; have HO356 := n_HO356; clear n_HO356; have HO360 := n_new; have HB := n_b; have HO_6 := n_nil; clear n_new n_b n_nil ho0 hb hg) | ((with_reducible refine gate_builtin (b := .append) (xs := #[.tmp 50, .tmp 52]) rfl ?_); at_builtin; refine Kd.R_append Kd.string (w0 := w) w.heap.size rfl (.tmp 50) (.tmp 52) 23 9 (.string ⟨#[]⟩) 16 rfl Try.underlying23 info9 rfl (by decide) (by omega) v359 t358 (rdOf ByteArray.empty l0 x23_2) [.string (rdOf ByteArray.empty l0 x23_2)] (fun _ => True) (fun _ => False) rfl rfl ?aP (fun _ hk => hk.elim) ?aF ?aO ?aB ?aS ?aL ?_; (case aP => exact rfl); (case aB => exact (by repeat (first | (with_reducible first | exact HB.out | apply below_alloc | apply pw_below_drewN | apply below_drew1) | exact HB.out))); (case aF => exact (fun _ _ => trivial)); (case aO => exact (by (with_reducible repeat (first | apply Kd.R_alloc | apply Kd.R_drewN | apply Kd.R_drew)); exact HO360.out)); (case aS => exact (below_size (by repeat (first | (with_reducible first | exact HB.out | apply below_alloc | apply pw_below_drewN | apply below_drew1) | exact HB.out)))); (case aL => have := LMc25.out; omega); intro v362 w30 ho hb hg hat; rw [← Ny361.out] at ho; have n0_ := Aside0.mk (show Kd.R Kd.string 9 w30 w.heap.size (fun _ => True) (.slice none 0 0) [] from Kd.R_nil _ _ _ _ _); have n1_ := Aside0.mk (Kd.R_over' (by (with_reducible repeat (first | apply Kd.R_alloc | apply Kd.R_drewN | apply Kd.R_drew)); exact HO356.out) (Kd.R_typed (by (with_reducible repeat (first | apply Kd.R_alloc | apply Kd.R_drewN | apply Kd.R_drew)); exact HO360.out)) (by decide) hg); have n2_ := Aside0.mk (hb); have n3_ := Aside0.mk (ho); clear HO_6; clear HO356; clear HB; clear HO360; have HO_6 := n0_; have HO356 := n1_; have HB := n2_; have HO363 := n3_; clear n0_ n1_ n2_ n3_; clear ho hb hg hat))
                          go_roundg k2
                          case measure => have := HJ2.out; have := HK2.out; omega
                          case rel => exact ⟨(y354), (y361), (wrap64 (x23_2 + 1)), (by first | rfl | (simp; done) | (simp [*]; done)), H', ⟨by have := HJ2.out; have := HK2.out; omega⟩, ⟨by (with_reducible repeat (first | apply Kd.R_alloc | apply Kd.R_drewN | apply Kd.R_drew)); exact HO356.out⟩, ⟨by (with_reducible repeat (first | apply Kd.R_alloc | apply Kd.R_drewN | apply Kd.R_drew)); exact Kd.R_mono HO363.out (fun _ hk => trivial)⟩, ⟨by repeat (first | (with_reducible first | exact HB.out | apply below_alloc | apply pw_below_drewN | apply below_drew1) | exact HB.out)⟩⟩
                        · rw [if_neg c25] at H
                          exact absurd H (by simp)
                      · rw [if_neg c22] at H
                        have c22b0 : ((x6_2.length : Int) == a1) = false := beq_eq_false_iff_ne.mpr c22
                        have c22b1 : ((x6_2.length : Int) != a1) = true := bne_iff_ne.mpr c22
                        by_cases c31 : x6_2.length < 8796093022208
                        · rw [if_pos c31] at H
                          have LMc31 := Aside0.mk c31
                          clear c31
                          obtain ⟨y364, hy364⟩ : ∃ y_ : List ByteArray, y_ = (x6_2 ++ [rdOf ByteArray.empty l0 x23_2]) := ⟨_, rfl⟩
                          replace H : (impl_BestHits.l0 k2 l0 a1 y354 y364 l0 (l0.length : Int) (wrap64 (x23_2 + 1))) = some r := by first | (rw [hy364]; with_reducible exact H) | (have H2_ := (Option.bind_some _ _).symm.trans H; rw [hy364]; with_reducible exact H2_) | (have H2_ := (Option.bind_some _ _).symm.trans H; with_reducible exact H2_) | with_reducible exact H | (rw [hy364]; exact H) | exact H
                          have Ny364 := Aside0.mk hy364
                          clear hy364
                          have H' := Aside0.mk H
                          clear H
                          have p352 : 0 ≤ (x23_2 : Int) := of_decide_eq_true (by first | (with_reducible assumption) | assumption)
                          have q352 : x23_2 < (l0.length : Int) := of_decide_eq_true (by first | (with_reducible assumption) | assumption)
                          obtain ⟨ad352, e352, hx352_0⟩ := Kd.at_string HR0.out x23_2 p352 q352
                          cases e352
                          replace hx352_0 := (HB.out.cell (World.block_lt_of_cell? w _ hx352_0)).trans hx352_0
                          replace p352 := eq_true p352
                          replace q352 := eq_true q352
                          obtain ⟨Ao32, co32, eo32⟩ := Kd.R_slice HO_6.out
                          subst eo32
                          go_wp2_with (first | ((with_reducible refine gate_callee (f := 71) rfl ?_); refine goesL_ (some 30) rfl rfl Try.func71 (by kernel_rfl) rfl #[.slice Ao32 x6_2.length co32, .string (rdOf ByteArray.empty l0 x23_2)] rfl (by (try simp only [List.map_toArray, List.map_cons, List.map_nil]); first | done | rfl | (simp only [List.length_drop, List.length_take]; rfl)) ?_; (with_reducible refine (slices_Contains_string_string.calls k2 _ _ x6_2 (rdOf ByteArray.empty l0 x23_2) false _ ?side1 ?side2 A17.out).mono ?_); (case side1 => repeat (first | exact (Kd.R_reads' HO_6.out).2.2 | (with_reducible refine Kd.C_alloc ?_ _) | (with_reducible refine Kd.C_drewN ?_ _) | (with_reducible refine Kd.C_drew ?_))); (case side2 => exact (Kd.R_reads' HO_6.out).2.1); rintro e w' ⟨rfl, ⟨nd, rfl⟩⟩; refine ⟨_, rfl, ?_⟩) | ((with_reducible refine gate_builtin (b := .append) (xs := #[.tmp 31, .tmp 33]) rfl ?_); at_builtin; refine Kd.R_append Kd.bool (w0 := w) w.heap.size rfl (.tmp 31) (.tmp 33) 59 4 (.bool false) 1 rfl Try.underlying59 info4 rfl (by decide) (by omega) u5 x5_2 false [.bool false] (fun _ => True) (fun _ => False) rfl rfl ?aP (fun _ hk => hk.elim) ?aF ?aO ?aB ?aS ?aL ?_; (case aP => exact rfl); (case aB => exact (by repeat (first | (with_reducible first | exact HB.out | apply below_alloc | apply pw_below_drewN | apply below_drew1) | exact HB.out))); (case aF => exact (fun _ _ => trivial)); (case aO => exact (by (with_reducible repeat (first | apply Kd.R_alloc | apply Kd.R_drewN | apply Kd.R_drew)); exact HO_5.out)); (case aS => exact (below_size (by repeat (first | (with_reducible first | exact HB.out | apply below_alloc | apply pw_below_drewN | apply below_drew1) | exact HB.out)))); (case aL => have := LMc18.out; omega); intro v355 w33 ho hb hg hat; rw [← Ny354.out] at ho; have n0_ := Aside0.mk (Kd.R_over' (by (with_reducible repeat (first | apply Kd.R_alloc | apply Kd.R_drewN | apply Kd.R_drew)); exact HO_6.out) (Kd.R_typed (by (with_reducible repeat (first | apply Kd.R_alloc | apply Kd.R_drewN | apply Kd.R_drew)); exact HO_5.out)) (by decide) hg); have n1_ := Aside0.mk (hb); have n2_ := Aside0.mk (ho); clear HO_6; clear HB; clear HO_5; have HO_6 := n0_; have HB := n1_; have HO356 := n2_; clear n0_ n1_ n2_; clear ho hb hg hat) | ((with_reducible refine gate_builtin (b := .append) (xs := #[.tmp 50, .tmp 52]) rfl ?_); at_builtin; refine Kd.R_append Kd.string (w0 := w) w.heap.size rfl (.tmp 50) (.tmp 52) 23 9 (.string ⟨#[]⟩) 16 rfl Try.underlying23 info9 rfl (by decide) (by omega) (.slice Ao32 x6_2.length co32) x6_2 (rdOf ByteArray.empty l0 x23_2) [.string (rdOf ByteArray.empty l0 x23_2)] (fun _ => True) (fun _ => False) rfl rfl ?aP (fun _ hk => hk.elim) ?aF ?aO ?aB ?aS ?aL ?_; (case aP => exact rfl); (case aB => exact (by repeat (first | (with_reducible first | exact HB.out | apply below_alloc | apply pw_below_drewN | apply below_drew1) | exact HB.out))); (case aF => exact (fun _ _ => trivial)); (case aO => exact (by (with_reducible repeat (first | apply Kd.R_alloc | apply Kd.R_drewN | apply Kd.R_drew)); exact HO_6.out)); (case aS => exact (below_size (by repeat (first | (with_reducible first | exact HB.out | apply below_alloc | apply pw_below_drewN | apply below_drew1) | exact HB.out)))); (case aL => have := LMc31.out; omega); intro v365 w34 ho hb hg hat; rw [← Ny364.out] at ho; have n0_ := Aside0.mk (Kd.R_over' (by (with_reducible repeat (first | apply Kd.R_alloc | apply Kd.R_drewN | apply Kd.R_drew)); exact HO356.out) (Kd.R_typed (by (with_reducible repeat (first | apply Kd.R_alloc | apply Kd.R_drewN | apply Kd.R_drew)); exact HO_6.out)) (by decide) hg); have n1_ := Aside0.mk (hb); have n2_ := Aside0.mk (ho); clear HO356; clear HB; clear HO_6; have HO356 := n0_; have HB := n1_; have HO366 := n2_; clear n0_ n1_ n2_; clear ho hb hg hat))
                          go_roundg k2
                          case measure => have := HJ2.out; have := HK2.out; omega
                          case rel => exact ⟨(y354), (y364), (wrap64 (x23_2 + 1)), (by first | rfl | (simp; done) | (simp [*]; done)), H', ⟨by have := HJ2.out; have := HK2.out; omega⟩, ⟨by (with_reducible repeat (first | apply Kd.R_alloc | apply Kd.R_drewN | apply Kd.R_drew)); exact HO356.out⟩, ⟨by (with_reducible repeat (first | apply Kd.R_alloc | apply Kd.R_drewN | apply Kd.R_drew)); exact HO366.out⟩, ⟨by repeat (first | (with_reducible first | exact HB.out | apply below_alloc | apply pw_below_drewN | apply below_drew1) | exact HB.out)⟩⟩
                        · rw [if_neg c31] at H
                          exact absurd H (by simp)
                  · rw [if_neg c18] at H
                    exact absurd H (by simp)
                · rw [if_neg c16] at H
                  exact absurd H (by simp)
              · rw [if_neg c15] at H
                exact absurd H (by simp)
            · rw [if_neg c14] at H
              have c14b0 : decide (x23_2 < (l0.length : Int)) = false := decide_eq_false c14
              clear c14
              obtain rfl := Option.some.inj H
              go_wp2
              go_ret
              exact ⟨_, by first | rfl | (simp [errW_none, errW_some] <;> rfl) | (simp [*, errW_none, errW_some] <;> rfl), by (with_reducible repeat (first | apply Kd.R_alloc | apply Kd.R_drewN | apply Kd.R_drew)); exact HO_5.out, by repeat (first | (with_reducible first | exact HB.out | apply below_alloc | apply pw_below_drewN | apply below_drew1) | exact HB.out)⟩

end Go.Proofs.Ytkaahabgbngodaa.Core

namespace Go.Proofs.Ytkaahabgbngodaa.Core
open Go.RowKit Go.Proofs.YtkaahabgbngodaaW.PrintWords Go.Proofs.YtkaahabgbngodaaW.PrintLast Go.Proofs.YtkaahabgbngodaaW.PrintMore
attribute [local go_sem] max2_int min2_int max_two min_two max_three min_three max_four min_four   -- for this text's walks alone
set_option linter.unusedVariables false
set_option linter.unusedSimpArgs false

/-! ### impl_BestMisses: function 26 -/
def impl_BestMisses.f (k : Nat) (l0 : List ByteArray) (a1 : Int) : Option (Int) := (impl_BestHits.f k l0 a1).bind fun t367 => ((impl_hitsIn.f k t367).bind fun t370 => (some (wrap64 ((t367.length : Int) - t370))))
theorem impl_BestMisses.mono : ∀ a0 a1 k, LeO (impl_BestMisses.f k a0 a1) (impl_BestMisses.f (k + 1) a0 a1) := by
  intro a0 a1 k
  unfold impl_BestMisses.f
  repeat' first
      | (with_reducible exact impl_BestHits.mono _ _ _)
      | (with_reducible exact impl_hitsIn.mono _ _)
      | (with_reducible exact LeO.refl _)
      | (with_reducible exact LeO.none _)
      | (with_reducible refine LeO.ite ?_ ?_)
      | (with_reducible refine LeO.bind ?_ (fun _ => ?_))
      | exact impl_BestHits.mono _ _ _
      | exact impl_hitsIn.mono _ _
      | exact LeO.none _
      | refine LeO.ite ?_ ?_
      | refine LeO.bind ?_ (fun _ => ?_)
set_option maxHeartbeats 8000000 in
set_option maxRecDepth 100000 in
theorem impl_BestMisses.calls (k : Nat) (A0 : Option Addr) (c0 : Nat) (l0 : List ByteArray) (a1 : Int) (r : Int) (w : World) (hr0 : Kd.C Kd.string w A0 l0.length l0) (hc0 : l0.length ≤ c0) (h : impl_BestMisses.f k l0 a1 = some r) :
    Calls Try.prog 26 #[.slice A0 l0.length c0, .int .i64 a1] w fun e w' => e = .returned (.int .i64 r) ∧ Below w.heap.size w w' := by
  have HR0 := Aside0.mk hr0
  have HC0 := Aside0.mk hc0
  clear hr0 hc0
  have HB := Aside0.mk (Below.refl w.heap.size w)
  have H : ((impl_BestHits.f k l0 a1).bind fun t367 => ((impl_hitsIn.f k t367).bind fun t370 => (some (wrap64 ((t367.length : Int) - t370))))) = some r := h
  clear h
  replace H := Option.bind_eq_some_iff.mp H
  obtain ⟨t367, A30, H⟩ := H
  replace H : ((impl_hitsIn.f k t367).bind fun t370 => (some (wrap64 ((t367.length : Int) - t370)))) = some r := H
  have A3 := Aside0.mk A30
  clear A30
  replace H := Option.bind_eq_some_iff.mp H
  obtain ⟨t370, A40, H⟩ := H
  replace H : (some (wrap64 ((t367.length : Int) - t370))) = some r := H
  have A4 := Aside0.mk A40
  clear A40
  obtain rfl := Option.some.inj H
  go_enter Try.func26, Try.ntmps26
  go_wp2_with (first | ((with_reducible refine gate_callee (f := 84) rfl ?_); refine goesL_ (some 8) rfl rfl Try.func84 (by kernel_rfl) rfl #[.slice A0 l0.length c0, .int .i64 a1] rfl (by (try simp only [List.map_toArray, List.map_cons, List.map_nil]); first | done | rfl | (simp only [List.length_drop, List.length_take]; rfl)) ?_; (with_reducible refine (impl_BestHits.calls k _ _ l0 a1 t367 _ ?side1 ?side2 A3.out).mono ?_); (case side1 => repeat (first | exact HR0.out | (with_reducible refine Kd.C_alloc ?_ _) | (with_reducible refine Kd.C_drewN ?_ _) | (with_reducible refine Kd.C_drew ?_))); (case side2 => exact HC0.out); rintro e w5 ⟨v368, rfl, ho0, hb⟩; refine ⟨_, rfl, ?_⟩; have n0_ := Aside0.mk (Kd.R_lower ho0 (below_size (by repeat (first | (with_reducible first | exact HB.out | apply below_alloc | apply pw_below_drewN | apply below_drew1) | exact HB.out)))); have n1_ := Aside0.mk (below_step (by repeat (first | (with_reducible first | exact HB.out | apply below_alloc | apply pw_below_drewN | apply below_drew1) | exact HB.out)) hb); clear HB; have HO369 := n0_; have HB := n1_; clear n0_ n1_; (try clear hb); (try clear hb2); (try clear hk); (try clear hi); (try clear ho0); obtain ⟨Ao6, co6, eo6⟩ := Kd.R_slice HO369.out; subst eo6) | ((with_reducible refine gate_callee (f := 83) rfl ?_); refine goesL_ (some 12) rfl rfl Try.func83 (by kernel_rfl) rfl #[.slice Ao6 t367.length co6] rfl (by (try simp only [List.map_toArray, List.map_cons, List.map_nil]); first | done | rfl | (simp only [List.length_drop, List.length_take]; rfl)) ?_; (with_reducible refine (impl_hitsIn.calls k _ _ t367 t370 _ ?side1 ?side2 A4.out).mono ?_); (case side1 => repeat (first | exact (Kd.R_reads' HO369.out).2.2 | (with_reducible refine Kd.C_alloc ?_ _) | (with_reducible refine Kd.C_drewN ?_ _) | (with_reducible refine Kd.C_drew ?_))); (case side2 => exact (Kd.R_reads' HO369.out).2.1); rintro e w' ⟨rfl, ⟨nd, rfl⟩⟩; refine ⟨_, rfl, ?_⟩))
  go_ret
  exact ⟨by first | rfl | (simp [errW_none, errW_some] <;> rfl) | (simp [*, errW_none, errW_some] <;> rfl), by repeat (first | (with_reducible first | exact HB.out | apply below_alloc | apply pw_below_drewN | apply below_drew1) | exact HB.out)⟩

end Go.Proofs.Ytkaahabgbngodaa.Core
