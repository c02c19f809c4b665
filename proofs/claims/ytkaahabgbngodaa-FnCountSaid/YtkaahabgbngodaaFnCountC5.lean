/- Contracts of the program's functions as Lean functions, for FnCount, part 5 (printed by wip/mkprint.py over the kit's print.py; what that refuses is written by hand in wip/manual). -/
import Derived.Test.YtkaahabgbngodaaFnCountW1
import Derived.Test.YtkaahabgbngodaaFnCountC1
import Derived.Test.YtkaahabgbngodaaFnCountC2
import Derived.Test.YtkaahabgbngodaaFnCountC3
import Derived.Test.YtkaahabgbngodaaFnCountC4

section
namespace Go.Proofs.Ytkaahabgbngodaa.Core
open Go.RowKit Go.Proofs.YtkaahabgbngodaaW.PrintWords Go.Proofs.YtkaahabgbngodaaW.PrintLast Go.Proofs.YtkaahabgbngodaaW.PrintMore
attribute [local go_sem] max2_int min2_int max_two min_two max_three min_three max_four min_four
set_option linter.unusedVariables false
set_option linter.unusedSimpArgs false
open List renaming setIfInBounds_toArray → lz1, set_cons_zero → lz2, set_cons_succ → lz3
mutual
def laws_FnCount.j0 : Nat → List ByteArray → List ByteArray → Bool → Int → Int → Int → Int → Int → Int → Int → Option (Bool)
 | 0, _, _, _, _, _, _, _, _, _, _ => none
 | k + 1, x3, x6, x69, x582000, x582001, x582002, x587000, x587001, x587002, x587003 => if x69 = true then (some false) else ((some (([] : List ByteArray) : List ByteArray)).bind fun y592 => (if y592.length + x3.length < 8796093022208 then ((some (y592 ++ x3 : List ByteArray)).bind fun y595 => ((some (([(⟨#[110, 101, 119]⟩ : ByteArray)] : List ByteArray) : List ByteArray)).bind fun y598 => (if y595.length + y598.length < 8796093022208 then ((impl_HitsOf.f k x582000 x582001 x582002 (y595 ++ y598)).bind fun t604 => (if (t604.length : Int) = (wrap64 ((x3.length : Int) + 1)) then (if 0 ≤ (x3.length : Int) then (if (x3.length : Int) < (t604.length : Int) then (laws_FnCount.j1 k x3 x6 (rdOf false t604 (x3.length : Int)) x582000 x582001 x582002 x587000 x587001 x587002 x587003) else (none)) else (none)) else (laws_FnCount.j1 k x3 x6 true x582000 x582001 x582002 x587000 x587001 x587002 x587003))) else (none)))) else (none)))
def laws_FnCount.j1 : Nat → List ByteArray → List ByteArray → Bool → Int → Int → Int → Int → Int → Int → Int → Option (Bool)
 | 0, _, _, _, _, _, _, _, _, _, _ => none
 | k + 1, x3, x6, x89, x582000, x582001, x582002, x587000, x587001, x587002, x587003 => if x89 = true then (some false) else (laws_FnCount.l0 k x3 x6 (x6.length : Int) 0 x582000 x582001 x582002 x587000 x587001 x587002 x587003)
def laws_FnCount.l0 : Nat → List ByteArray → List ByteArray → Int → Int → Int → Int → Int → Int → Int → Int → Int → Option (Bool)
 | 0, _, _, _, _, _, _, _, _, _, _, _ => none
 | k + 1, x3, x90, x91, x92, x582000, x582001, x582002, x587000, x587001, x587002, x587003 => if x92 < x91 then (if 0 ≤ x92 then (if x92 < (x90.length : Int) then ((some (([] : List ByteArray) : List ByteArray)).bind fun y609 => (if y609.length + x3.length < 8796093022208 then ((some (y609 ++ x3 : List ByteArray)).bind fun y612 => ((some (([rdOf ByteArray.empty x90 x92] : List ByteArray) : List ByteArray)).bind fun y615 => (if y612.length + y615.length < 8796093022208 then ((impl_HitsOf.f k x582000 x582001 x582002 (y612 ++ y615)).bind fun t621 => (if (t621.length : Int) = (wrap64 ((x3.length : Int) + 1)) then (if 0 ≤ (x3.length : Int) then (if (x3.length : Int) < (t621.length : Int) then (if (rdOf false t621 (x3.length : Int) = true) then (laws_FnCount.l0 k x3 x90 x91 (wrap64 (x92 + 1)) x582000 x582001 x582002 x587000 x587001 x587002 x587003) else (some false)) else (none)) else (none)) else (some false))) else (none)))) else (none))) else (none)) else (none)) else ((impl_Rate.f x587000 x587001 x587002 x587003).bind fun t625 => ((spec_Rate.f x587000 x587001 x587002 x587003).bind fun t626 => (some (t625 == t626))))
end
def laws_FnCount.f (k : Nat) (l0 : List Int) : Option (Bool) := if (l0.length : Int) > 1048576 then (some true) else ((spec_MakeAsks.f k l0 24).bind fun t575 => ((spec_MakeSetup.f k l0).bind fun bt578 => ((impl_CountOf.f k bt578.1 bt578.2.1 bt578.2.2 t575).bind fun bt582 => ((impl_Holds.f k bt578.1 bt578.2.1 bt578.2.2 t575).bind fun t587 => ((impl_SetupOk.f k bt578.1 bt578.2.1 bt578.2.2).bind fun t590 => (if t590 = true then (if bt582.1 = (t575.length : Int) then (if (wrap64 (bt582.2.1 + bt582.2.2.1)) = bt582.1 then (if bt582.2.2.2 = (wrap64 (bt582.2.2.1 - (t587.length : Int))) then (if (t587.length : Int) > bt578.2.1 then (laws_FnCount.j0 k t575 t587 true bt578.1 bt578.2.1 bt578.2.2 bt582.1 bt582.2.1 bt582.2.2.1 bt582.2.2.2) else ((laws_less.f (decide ((t575.length : Int) > 0))).bind fun t591 => (laws_FnCount.j0 k t575 t587 (decide ((t587.length : Int) < t591)) bt578.1 bt578.2.1 bt578.2.2 bt582.1 bt582.2.1 bt582.2.2.1 bt582.2.2.2))) else (laws_FnCount.j0 k t575 t587 true bt578.1 bt578.2.1 bt578.2.2 bt582.1 bt582.2.1 bt582.2.2.1 bt582.2.2.2)) else (laws_FnCount.j0 k t575 t587 true bt578.1 bt578.2.1 bt578.2.2 bt582.1 bt582.2.1 bt582.2.2.1 bt582.2.2.2)) else (laws_FnCount.j0 k t575 t587 true bt578.1 bt578.2.1 bt578.2.2 bt582.1 bt582.2.1 bt582.2.2.1 bt582.2.2.2)) else (laws_FnCount.j0 k t575 t587 true bt578.1 bt578.2.1 bt578.2.2 bt582.1 bt582.2.1 bt582.2.2.1 bt582.2.2.2)))))))
theorem laws_FnCount.mono_l : ∀ k, (∀ y0 y1 y2 y3 y4 y5 y6 y7 y8 y9, LeO (laws_FnCount.j0 k y0 y1 y2 y3 y4 y5 y6 y7 y8 y9) (laws_FnCount.j0 (k + 1) y0 y1 y2 y3 y4 y5 y6 y7 y8 y9)) ∧ (∀ y0 y1 y2 y3 y4 y5 y6 y7 y8 y9, LeO (laws_FnCount.j1 k y0 y1 y2 y3 y4 y5 y6 y7 y8 y9) (laws_FnCount.j1 (k + 1) y0 y1 y2 y3 y4 y5 y6 y7 y8 y9)) ∧ (∀ y0 y1 y2 y3 y4 y5 y6 y7 y8 y9 y10, LeO (laws_FnCount.l0 k y0 y1 y2 y3 y4 y5 y6 y7 y8 y9 y10) (laws_FnCount.l0 (k + 1) y0 y1 y2 y3 y4 y5 y6 y7 y8 y9 y10))
 | 0 => ⟨fun _ _ _ _ _ _ _ _ _ _ r h => by simp [laws_FnCount.j0] at h, fun _ _ _ _ _ _ _ _ _ _ r h => by simp [laws_FnCount.j1] at h, fun _ _ _ _ _ _ _ _ _ _ _ r h => by simp [laws_FnCount.l0] at h⟩
 | k + 1 => by
  obtain ⟨ih0, ih1, ih2⟩ := laws_FnCount.mono_l k
  refine ⟨?_, ?_, ?_⟩
  ·intro y0 y1 y2 y3 y4 y5 y6 y7 y8 y9
   unfold laws_FnCount.j0
   repeat' first
   | (with_reducible exact ih0 _ _ _ _ _ _ _ _ _ _)
   | (with_reducible exact ih1 _ _ _ _ _ _ _ _ _ _)
   | (with_reducible exact ih2 _ _ _ _ _ _ _ _ _ _ _)
   | (with_reducible exact impl_CountOf.mono _ _ _ _ _)
   | (with_reducible exact impl_HitsOf.mono _ _ _ _ _)
   | (with_reducible exact impl_Holds.mono _ _ _ _ _)
   | (with_reducible exact impl_SetupOk.mono _ _ _ _)
   | (with_reducible exact spec_MakeAsks.mono _ _ _)
   | (with_reducible exact spec_MakeSetup.mono _ _)
   | (with_reducible exact LeO.refl _)
   | (with_reducible exact LeO.none _)
   | (with_reducible refine LeO.ite ?_ ?_)
   | (with_reducible refine LeO.bind ?_ (fun _ => ?_))
   | exact ih0 _ _ _ _ _ _ _ _ _ _
   | exact ih1 _ _ _ _ _ _ _ _ _ _
   | exact ih2 _ _ _ _ _ _ _ _ _ _ _
   | exact impl_CountOf.mono _ _ _ _ _
   | exact impl_HitsOf.mono _ _ _ _ _
   | exact impl_Holds.mono _ _ _ _ _
   | exact impl_SetupOk.mono _ _ _ _
   | exact spec_MakeAsks.mono _ _ _
   | exact spec_MakeSetup.mono _ _
   | exact LeO.none _
   | refine LeO.ite ?_ ?_
   | refine LeO.bind ?_ (fun _ => ?_)
  ·intro y0 y1 y2 y3 y4 y5 y6 y7 y8 y9
   unfold laws_FnCount.j1
   repeat' first
   | (with_reducible exact ih0 _ _ _ _ _ _ _ _ _ _)
   | (with_reducible exact ih1 _ _ _ _ _ _ _ _ _ _)
   | (with_reducible exact ih2 _ _ _ _ _ _ _ _ _ _ _)
   | (with_reducible exact impl_CountOf.mono _ _ _ _ _)
   | (with_reducible exact impl_HitsOf.mono _ _ _ _ _)
   | (with_reducible exact impl_Holds.mono _ _ _ _ _)
   | (with_reducible exact impl_SetupOk.mono _ _ _ _)
   | (with_reducible exact spec_MakeAsks.mono _ _ _)
   | (with_reducible exact spec_MakeSetup.mono _ _)
   | (with_reducible exact LeO.refl _)
   | (with_reducible exact LeO.none _)
   | (with_reducible refine LeO.ite ?_ ?_)
   | (with_reducible refine LeO.bind ?_ (fun _ => ?_))
   | exact ih0 _ _ _ _ _ _ _ _ _ _
   | exact ih1 _ _ _ _ _ _ _ _ _ _
   | exact ih2 _ _ _ _ _ _ _ _ _ _ _
   | exact impl_CountOf.mono _ _ _ _ _
   | exact impl_HitsOf.mono _ _ _ _ _
   | exact impl_Holds.mono _ _ _ _ _
   | exact impl_SetupOk.mono _ _ _ _
   | exact spec_MakeAsks.mono _ _ _
   | exact spec_MakeSetup.mono _ _
   | exact LeO.none _
   | refine LeO.ite ?_ ?_
   | refine LeO.bind ?_ (fun _ => ?_)
  ·intro y0 y1 y2 y3 y4 y5 y6 y7 y8 y9 y10
   unfold laws_FnCount.l0
   repeat' first
   | (with_reducible exact ih0 _ _ _ _ _ _ _ _ _ _)
   | (with_reducible exact ih1 _ _ _ _ _ _ _ _ _ _)
   | (with_reducible exact ih2 _ _ _ _ _ _ _ _ _ _ _)
   | (with_reducible exact impl_CountOf.mono _ _ _ _ _)
   | (with_reducible exact impl_HitsOf.mono _ _ _ _ _)
   | (with_reducible exact impl_Holds.mono _ _ _ _ _)
   | (with_reducible exact impl_SetupOk.mono _ _ _ _)
   | (with_reducible exact spec_MakeAsks.mono _ _ _)
   | (with_reducible exact spec_MakeSetup.mono _ _)
   | (with_reducible exact LeO.refl _)
   | (with_reducible exact LeO.none _)
   | (with_reducible refine LeO.ite ?_ ?_)
   | (with_reducible refine LeO.bind ?_ (fun _ => ?_))
   | exact ih0 _ _ _ _ _ _ _ _ _ _
   | exact ih1 _ _ _ _ _ _ _ _ _ _
   | exact ih2 _ _ _ _ _ _ _ _ _ _ _
   | exact impl_CountOf.mono _ _ _ _ _
   | exact impl_HitsOf.mono _ _ _ _ _
   | exact impl_Holds.mono _ _ _ _ _
   | exact impl_SetupOk.mono _ _ _ _
   | exact spec_MakeAsks.mono _ _ _
   | exact spec_MakeSetup.mono _ _
   | exact LeO.none _
   | refine LeO.ite ?_ ?_
   | refine LeO.bind ?_ (fun _ => ?_)
theorem laws_FnCount.mono : ∀ a0 k, LeO (laws_FnCount.f k a0) (laws_FnCount.f (k + 1) a0) := by
 intro a0 k
 obtain ⟨ih0, ih1, ih2⟩ := laws_FnCount.mono_l k
 unfold laws_FnCount.f
 repeat' first
   | (with_reducible exact ih0 _ _ _ _ _ _ _ _ _ _)
   | (with_reducible exact ih1 _ _ _ _ _ _ _ _ _ _)
   | (with_reducible exact ih2 _ _ _ _ _ _ _ _ _ _ _)
   | (with_reducible exact impl_CountOf.mono _ _ _ _ _)
   | (with_reducible exact impl_HitsOf.mono _ _ _ _ _)
   | (with_reducible exact impl_Holds.mono _ _ _ _ _)
   | (with_reducible exact impl_SetupOk.mono _ _ _ _)
   | (with_reducible exact spec_MakeAsks.mono _ _ _)
   | (with_reducible exact spec_MakeSetup.mono _ _)
   | (with_reducible exact LeO.refl _)
   | (with_reducible exact LeO.none _)
   | (with_reducible refine LeO.ite ?_ ?_)
   | (with_reducible refine LeO.bind ?_ (fun _ => ?_))
   | exact ih0 _ _ _ _ _ _ _ _ _ _
   | exact ih1 _ _ _ _ _ _ _ _ _ _
   | exact ih2 _ _ _ _ _ _ _ _ _ _ _
   | exact impl_CountOf.mono _ _ _ _ _
   | exact impl_HitsOf.mono _ _ _ _ _
   | exact impl_Holds.mono _ _ _ _ _
   | exact impl_SetupOk.mono _ _ _ _
   | exact spec_MakeAsks.mono _ _ _
   | exact spec_MakeSetup.mono _ _
   | exact LeO.none _
   | refine LeO.ite ?_ ?_
   | refine LeO.bind ?_ (fun _ => ?_)
def laws_FnCount.T9 : Bool × List (List Nat × List Nat) := (true, [([], []), ([], []), ([], []), ([1, 2], [1, 2]), ([], []), ([3, 4, 3], [3, 4]), ([0, 5, 5], [0, 5]), ([6, 6, 0, 1, 2, 3, 4, 5, 6], [6])])
def laws_FnCount.B9 : List Nat := [0, 0, 0, 6, 0, 30, 63, 127]
theorem laws_FnCount.tab9 : rtab .any (opsOf Try.f6 9) = laws_FnCount.T9 := by kernel_rfl
theorem laws_FnCount.bits9 : waitsOk laws_FnCount.T9.2 laws_FnCount.B9 = true := by kernel_rfl
def laws_FnCount.T15 : Bool × List (List Nat × List Nat) := (true, [([], []), ([], []), ([], []), ([1, 2], [1, 2]), ([], []), ([4], [4]), ([3, 5, 3], [3, 5]), ([0, 6, 6], [0, 6]), ([7, 7, 0, 1, 2, 3, 4, 5, 6, 7], [7])])
def laws_FnCount.B15 : List Nat := [0, 0, 0, 6, 0, 16, 62, 127, 255]
theorem laws_FnCount.tab15 : rtab .any (opsOf Try.f6 15) = laws_FnCount.T15 := by kernel_rfl
theorem laws_FnCount.bits15 : waitsOk laws_FnCount.T15.2 laws_FnCount.B15 = true := by kernel_rfl
theorem laws_FnCount.j0_no (k : Nat) (y0 : List ByteArray) (y1 : List ByteArray) (y3 : Int) (y4 : Int) (y5 : Int) (y6 : Int) (y7 : Int) (y8 : Int) (y9 : Int) : laws_FnCount.j0 k y0 y1 true y3 y4 y5 y6 y7 y8 y9 ≠ some true := by cases k <;> simp [laws_FnCount.j0]
set_option maxHeartbeats 8000000 in
set_option maxRecDepth 100000 in
theorem laws_FnCount.calls (k : Nat) (A0 : Option Addr) (c0 : Nat) (l0 : List Int) (w : World) (hr0 : Kd.C (Kd.int .u8) w A0 l0.length l0) (hc0 : l0.length ≤ c0) (h : laws_FnCount.f k l0 = some true) :
  Calls Try.prog 6 #[.slice A0 l0.length c0] w fun e w' => e = .returned (.bool true) ∧ Below w.heap.size w w' := by
 have hu28 := Try.underlying28
 have hu45 := Try.underlying45
 have HR0 := Aside0.mk hr0
 have HC0 := Aside0.mk hc0
 clear hr0 hc0
 have HB := Aside0.mk (Below.refl w.heap.size w)
 have H : (if (l0.length : Int) > 1048576 then (some true) else ((spec_MakeAsks.f k l0 24).bind fun t575 => ((spec_MakeSetup.f k l0).bind fun bt578 => ((impl_CountOf.f k bt578.1 bt578.2.1 bt578.2.2 t575).bind fun bt582 => ((impl_Holds.f k bt578.1 bt578.2.1 bt578.2.2 t575).bind fun t587 => ((impl_SetupOk.f k bt578.1 bt578.2.1 bt578.2.2).bind fun t590 => (if t590 = true then (if bt582.1 = (t575.length : Int) then (if (wrap64 (bt582.2.1 + bt582.2.2.1)) = bt582.1 then (if bt582.2.2.2 = (wrap64 (bt582.2.2.1 - (t587.length : Int))) then (if (t587.length : Int) > bt578.2.1 then (laws_FnCount.j0 k t575 t587 true bt578.1 bt578.2.1 bt578.2.2 bt582.1 bt582.2.1 bt582.2.2.1 bt582.2.2.2) else ((laws_less.f (decide ((t575.length : Int) > 0))).bind fun t591 => (laws_FnCount.j0 k t575 t587 (decide ((t587.length : Int) < t591)) bt578.1 bt578.2.1 bt578.2.2 bt582.1 bt582.2.1 bt582.2.2.1 bt582.2.2.2))) else (laws_FnCount.j0 k t575 t587 true bt578.1 bt578.2.1 bt578.2.2 bt582.1 bt582.2.1 bt582.2.2.1 bt582.2.2.2)) else (laws_FnCount.j0 k t575 t587 true bt578.1 bt578.2.1 bt578.2.2 bt582.1 bt582.2.1 bt582.2.2.1 bt582.2.2.2)) else (laws_FnCount.j0 k t575 t587 true bt578.1 bt578.2.1 bt578.2.2 bt582.1 bt582.2.1 bt582.2.2.1 bt582.2.2.2)) else (laws_FnCount.j0 k t575 t587 true bt578.1 bt578.2.1 bt578.2.2 bt582.1 bt582.2.1 bt582.2.2.1 bt582.2.2.2)))))))) = some true := h
 clear h
 by_cases c2 : (l0.length : Int) > 1048576
 ·rw [if_pos c2] at H
  have c2b0 : decide (1048576 < (l0.length : Int)) = true := decide_eq_true c2
  have c2b1 : decide (1048576 < l0.length) = true := decide_eq_true (by omega)
  clear c2
  have hr_ := Aside0.mk (Option.some.inj H)
  go_enter Try.func6, Try.ntmps6
  go_wp2
  go_ret
  exact ⟨by first | rfl | (have hz_ := hr_.out; simp [hz_]; done) | (have hz_ := hr_.out; simp at hz_; simp [hz_]; done) | (have hz_ := hr_.out; simp at hz_ ⊢; omega) | (simp [errW_none, errW_some] <;> rfl) | (simp [*, errW_none, errW_some] <;> rfl), by repeat (first | (with_reducible first | exact HB.out | apply below_alloc | apply pw_below_drewN | apply below_drew1) | exact HB.out)⟩
 ·rw [if_neg c2] at H
  have c2b0 : decide (1048576 < (l0.length : Int)) = false := decide_eq_false c2
  have c2b1 : decide (1048576 < l0.length) = false := decide_eq_false (by omega)
  clear c2
  replace H := Option.bind_eq_some_iff.mp H
  obtain ⟨t575, A30, H⟩ := H
  replace H : ((spec_MakeSetup.f k l0).bind fun bt578 => ((impl_CountOf.f k bt578.1 bt578.2.1 bt578.2.2 t575).bind fun bt582 => ((impl_Holds.f k bt578.1 bt578.2.1 bt578.2.2 t575).bind fun t587 => ((impl_SetupOk.f k bt578.1 bt578.2.1 bt578.2.2).bind fun t590 => (if t590 = true then (if bt582.1 = (t575.length : Int) then (if (wrap64 (bt582.2.1 + bt582.2.2.1)) = bt582.1 then (if bt582.2.2.2 = (wrap64 (bt582.2.2.1 - (t587.length : Int))) then (if (t587.length : Int) > bt578.2.1 then (laws_FnCount.j0 k t575 t587 true bt578.1 bt578.2.1 bt578.2.2 bt582.1 bt582.2.1 bt582.2.2.1 bt582.2.2.2) else ((laws_less.f (decide ((t575.length : Int) > 0))).bind fun t591 => (laws_FnCount.j0 k t575 t587 (decide ((t587.length : Int) < t591)) bt578.1 bt578.2.1 bt578.2.2 bt582.1 bt582.2.1 bt582.2.2.1 bt582.2.2.2))) else (laws_FnCount.j0 k t575 t587 true bt578.1 bt578.2.1 bt578.2.2 bt582.1 bt582.2.1 bt582.2.2.1 bt582.2.2.2)) else (laws_FnCount.j0 k t575 t587 true bt578.1 bt578.2.1 bt578.2.2 bt582.1 bt582.2.1 bt582.2.2.1 bt582.2.2.2)) else (laws_FnCount.j0 k t575 t587 true bt578.1 bt578.2.1 bt578.2.2 bt582.1 bt582.2.1 bt582.2.2.1 bt582.2.2.2)) else (laws_FnCount.j0 k t575 t587 true bt578.1 bt578.2.1 bt578.2.2 bt582.1 bt582.2.1 bt582.2.2.1 bt582.2.2.2)))))) = some true := H
  have A3 := Aside0.mk A30
  clear A30
  replace H := Option.bind_eq_some_iff.mp H
  obtain ⟨⟨t578, t579, t580⟩, A40, H⟩ := H
  replace H : ((impl_CountOf.f k t578 t579 t580 t575).bind fun bt582 => ((impl_Holds.f k t578 t579 t580 t575).bind fun t587 => ((impl_SetupOk.f k t578 t579 t580).bind fun t590 => (if t590 = true then (if bt582.1 = (t575.length : Int) then (if (wrap64 (bt582.2.1 + bt582.2.2.1)) = bt582.1 then (if bt582.2.2.2 = (wrap64 (bt582.2.2.1 - (t587.length : Int))) then (if (t587.length : Int) > t579 then (laws_FnCount.j0 k t575 t587 true t578 t579 t580 bt582.1 bt582.2.1 bt582.2.2.1 bt582.2.2.2) else ((laws_less.f (decide ((t575.length : Int) > 0))).bind fun t591 => (laws_FnCount.j0 k t575 t587 (decide ((t587.length : Int) < t591)) t578 t579 t580 bt582.1 bt582.2.1 bt582.2.2.1 bt582.2.2.2))) else (laws_FnCount.j0 k t575 t587 true t578 t579 t580 bt582.1 bt582.2.1 bt582.2.2.1 bt582.2.2.2)) else (laws_FnCount.j0 k t575 t587 true t578 t579 t580 bt582.1 bt582.2.1 bt582.2.2.1 bt582.2.2.2)) else (laws_FnCount.j0 k t575 t587 true t578 t579 t580 bt582.1 bt582.2.1 bt582.2.2.1 bt582.2.2.2)) else (laws_FnCount.j0 k t575 t587 true t578 t579 t580 bt582.1 bt582.2.1 bt582.2.2.1 bt582.2.2.2))))) = some true := H
  have A4 := Aside0.mk A40
  clear A40
  replace H := Option.bind_eq_some_iff.mp H
  obtain ⟨⟨t582, t583, t584, t585⟩, A50, H⟩ := H
  replace H : ((impl_Holds.f k t578 t579 t580 t575).bind fun t587 => ((impl_SetupOk.f k t578 t579 t580).bind fun t590 => (if t590 = true then (if t582 = (t575.length : Int) then (if (wrap64 (t583 + t584)) = t582 then (if t585 = (wrap64 (t584 - (t587.length : Int))) then (if (t587.length : Int) > t579 then (laws_FnCount.j0 k t575 t587 true t578 t579 t580 t582 t583 t584 t585) else ((laws_less.f (decide ((t575.length : Int) > 0))).bind fun t591 => (laws_FnCount.j0 k t575 t587 (decide ((t587.length : Int) < t591)) t578 t579 t580 t582 t583 t584 t585))) else (laws_FnCount.j0 k t575 t587 true t578 t579 t580 t582 t583 t584 t585)) else (laws_FnCount.j0 k t575 t587 true t578 t579 t580 t582 t583 t584 t585)) else (laws_FnCount.j0 k t575 t587 true t578 t579 t580 t582 t583 t584 t585)) else (laws_FnCount.j0 k t575 t587 true t578 t579 t580 t582 t583 t584 t585)))) = some true := H
  have A5 := Aside0.mk A50
  clear A50
  replace H := Option.bind_eq_some_iff.mp H
  obtain ⟨t587, A60, H⟩ := H
  replace H : ((impl_SetupOk.f k t578 t579 t580).bind fun t590 => (if t590 = true then (if t582 = (t575.length : Int) then (if (wrap64 (t583 + t584)) = t582 then (if t585 = (wrap64 (t584 - (t587.length : Int))) then (if (t587.length : Int) > t579 then (laws_FnCount.j0 k t575 t587 true t578 t579 t580 t582 t583 t584 t585) else ((laws_less.f (decide ((t575.length : Int) > 0))).bind fun t591 => (laws_FnCount.j0 k t575 t587 (decide ((t587.length : Int) < t591)) t578 t579 t580 t582 t583 t584 t585))) else (laws_FnCount.j0 k t575 t587 true t578 t579 t580 t582 t583 t584 t585)) else (laws_FnCount.j0 k t575 t587 true t578 t579 t580 t582 t583 t584 t585)) else (laws_FnCount.j0 k t575 t587 true t578 t579 t580 t582 t583 t584 t585)) else (laws_FnCount.j0 k t575 t587 true t578 t579 t580 t582 t583 t584 t585))) = some true := H
  have A6 := Aside0.mk A60
  clear A60
  have HC7 := Aside0.mk H
  clear H
  go_enter Try.func6, Try.ntmps6
  go_upto_region 7 with (first | ((with_reducible refine gate_callee (f := 15) rfl ?_); refine goesL_ (some 15) rfl rfl Try.func15 (by kernel_rfl) rfl #[.slice A0 l0.length c0, .int .i64 24] rfl (by (try simp only [List.map_toArray, List.map_cons, List.map_nil]); first | done | rfl | (simp only [List.length_drop, List.length_take]; rfl)) ?_; (with_reducible refine (spec_MakeAsks.calls k _ _ l0 24 t575 _ ?side1 ?side2 A3.out).mono ?_); (case side1 => repeat (first | exact HR0.out | (with_reducible refine Kd.C_alloc ?_ _) | (with_reducible refine Kd.C_drewN ?_ _) | (with_reducible refine Kd.C_drew ?_))); (case side2 => exact HC0.out); rintro e w8 ⟨v576, rfl, ho0, hb⟩; refine ⟨_, rfl, ?_⟩; have n0_ := Aside0.mk (Kd.R_lower ho0 (below_size (by repeat (first | (with_reducible first | exact HB.out | apply below_alloc | apply pw_below_drewN | apply below_drew1) | exact HB.out)))); have n1_ := Aside0.mk (below_step (by repeat (first | (with_reducible first | exact HB.out | apply below_alloc | apply pw_below_drewN | apply below_drew1) | exact HB.out)) hb); clear HB; have HO577 := n0_; have HB := n1_; clear n0_ n1_; (try clear hb); (try clear hb2); (try clear hk); (try clear hi); (try clear ho0)) | ((with_reducible refine gate_callee (f := 32) rfl ?_); refine goesL_ (some 17) rfl rfl Try.func32 (by kernel_rfl) rfl #[.slice A0 l0.length c0] rfl (by (try simp only [List.map_toArray, List.map_cons, List.map_nil]); first | done | rfl | (simp only [List.length_drop, List.length_take]; rfl)) ?_; (with_reducible refine (spec_MakeSetup.calls k _ _ l0 t578 t579 t580 _ ?side1 ?side2 A4.out).mono ?_); (case side1 => repeat (first | exact (Kd.C_below HR0.out HB.out) | (with_reducible refine Kd.C_alloc ?_ _) | (with_reducible refine Kd.C_drewN ?_ _) | (with_reducible refine Kd.C_drew ?_))); (case side2 => exact HC0.out); rintro e w9 ⟨rfl, hb⟩; refine ⟨_, rfl, ?_⟩; have n0_ := Aside0.mk (Kd.R_below (by (with_reducible repeat (first | apply Kd.R_alloc | apply Kd.R_drewN | apply Kd.R_drew)); exact HO577.out) hb); have n1_ := Aside0.mk (below_step (by repeat (first | (with_reducible first | exact HB.out | apply below_alloc | apply pw_below_drewN | apply below_drew1) | exact HB.out)) hb); clear HO577; clear HB; have HO577 := n0_; have HB := n1_; clear n0_ n1_; (try clear hb); (try clear hb2); (try clear hk); (try clear hi)) | ((with_reducible refine gate_dst (N := 4) rfl ?_); (try (refine gate_guard (by rfl) ?_; dsimp only)); refine box_event ?hg (N := 4) ?hd (cs := #[.int .i64 0, .int .i64 0, .int .i64 0]) (t := 28) ?hr ?_; (case hd => rfl); (case hg => rfl); (case hr => first | (go_simp; done) | (go_simp; rfl)); intro gb581 hg w10 hbox hb; have n0_ := Aside0.mk (Kd.R_below (by (with_reducible repeat (first | apply Kd.R_alloc | apply Kd.R_drewN | apply Kd.R_drew)); exact HO577.out) hb); have n1_ := Aside0.mk (below_step (by repeat (first | (with_reducible first | exact HB.out | apply below_alloc | apply pw_below_drewN | apply below_drew1) | exact HB.out)) hb); have n2_ := Aside0.mk (hbox); have n3_ := Aside0.mk ((by rw [hg]; exact (below_size (by repeat (first | (with_reducible first | exact HB.out | apply below_alloc | apply pw_below_drewN | apply below_drew1) | exact HB.out))) : w.heap.size ≤ gb581)); have n4_ := Aside0.mk ((by rw [hg]; exact (below_size (by repeat (first | (with_reducible first | exact HB.out | apply below_alloc | apply pw_below_drewN | apply below_drew1) | exact HB.out))) : w.heap.size ≤ gb581)); clear HO577; clear HB; have HO577 := n0_; have HB := n1_; have BK581 := n2_; have GW581 := n3_; have GE581 := n4_; clear n0_ n1_ n2_ n3_ n4_; clear hb hbox hg; have hcz11_0 : w10.cell? ⟨gb581, 0, none⟩ = some (.int .i64 0) := (blk_cell BK581.out 0).trans rfl; have hcz11_1 : w10.cell? ⟨gb581, 1, none⟩ = some (.int .i64 0) := (blk_cell BK581.out 1).trans rfl; have hcz11_2 : w10.cell? ⟨gb581, 2, none⟩ = some (.int .i64 0) := (blk_cell BK581.out 2).trans rfl; have hfz11_0 := blk_frozen BK581.out 0; have hfz11_1 := blk_frozen BK581.out 1; have hfz11_2 := blk_frozen BK581.out 2; obtain ⟨Ao12, co12, eo12⟩ := Kd.R_slice HO577.out; subst eo12) | ((with_reducible refine gate_callee (f := 25) rfl ?_); refine goesL_ (some 20) rfl rfl Try.func25 (by kernel_rfl) rfl #[.agg #[.int .i64 t578, .int .i64 t579, .int .i64 t580], .slice Ao12 t575.length co12] rfl (by (try simp only [List.map_toArray, List.map_cons, List.map_nil]); first | done | rfl | (simp only [List.length_drop, List.length_take]; rfl)) ?_; (with_reducible refine (impl_CountOf.calls k t578 t579 t580 _ _ t575 t582 t583 t584 t585 _ ?side1 ?side2 A5.out).mono ?_); (case side1 => refine (Kd.R_reads' (e := 9) (base := w.heap.size) (ok := fun k_ => True) (n := t575.length) (c := co12) ?_).2.2; exact (by (with_reducible repeat (first | apply Kd.R_alloc | apply Kd.R_drewN | apply Kd.R_drew)); exact (Kd.R_mono (Kd.R_far (p := ⟨gb581, 2, none⟩) (Kd.R_far (p := ⟨gb581, 1, none⟩) (Kd.R_far (p := ⟨gb581, 0, none⟩) (Kd.R_types HO577.out BK581.out (by decide)) (fun _ hk => hk.2) (.int .i64 t578)) (fun _ hk => hk.2) (.int .i64 t579)) (fun _ hk => hk.2) (.int .i64 t580)) (fun _ h_ => h_.1)))); (case side2 => exact (Kd.R_reads' HO577.out).2.1); rintro e w13 ⟨rfl, hb⟩; refine ⟨_, rfl, ?_⟩; have n0_ := Aside0.mk (Kd.R_below (by (with_reducible repeat (first | apply Kd.R_alloc | apply Kd.R_drewN | apply Kd.R_drew)); exact (Kd.R_mono (Kd.R_far (p := ⟨gb581, 2, none⟩) (Kd.R_far (p := ⟨gb581, 1, none⟩) (Kd.R_far (p := ⟨gb581, 0, none⟩) (Kd.R_types HO577.out BK581.out (by decide)) (fun _ hk => hk.2) (.int .i64 t578)) (fun _ hk => hk.2) (.int .i64 t579)) (fun _ hk => hk.2) (.int .i64 t580)) (fun _ h_ => h_.1))) hb); have n1_ := Aside0.mk (blk_below (g := gb581) (o := .cells #[.int .i64 t578, .int .i64 t579, .int .i64 t580] 28 (0, 0)) (by (with_reducible repeat (first | refine blk_drewN ?_ _ | refine blk_drew ?_ | refine blk_alloc ?_ _)); refine blk_put (cs := #[.int .i64 t578, .int .i64 t579, .int .i64 0]) ?_ 2 _ rfl; (with_reducible repeat (first | refine blk_drewN ?_ _ | refine blk_drew ?_ | refine blk_alloc ?_ _)); refine blk_put (cs := #[.int .i64 t578, .int .i64 0, .int .i64 0]) ?_ 1 _ rfl; (with_reducible repeat (first | refine blk_drewN ?_ _ | refine blk_drew ?_ | refine blk_alloc ?_ _)); refine blk_put (cs := #[.int .i64 0, .int .i64 0, .int .i64 0]) ?_ 0 _ rfl; (with_reducible repeat (first | refine blk_drewN ?_ _ | refine blk_drew ?_ | refine blk_alloc ?_ _)); exact BK581.out) hb); have n2_ := Aside0.mk (below_step (by repeat (first | (with_reducible first | exact HB.out | apply below_alloc | apply pw_below_drewN | apply below_drew1 | refine below_set ?_ GE581.out) | exact HB.out)) hb); clear HO577; clear BK581; clear HB; have HO577 := n0_; have BK581 := n1_; have HB := n2_; clear n0_ n1_ n2_; (try clear hb); (try clear hb2); (try clear hk); (try clear hi)) | ((with_reducible refine gate_dst (N := 5) rfl ?_); (try (refine gate_guard (by rfl) ?_; dsimp only)); refine box_event ?hg (N := 5) ?hd (cs := #[.int .i64 0, .int .i64 0, .int .i64 0, .int .i64 0]) (t := 45) ?hr ?_; (case hd => rfl); (case hg => rfl); (case hr => first | (go_simp; done) | (go_simp; rfl)); intro gb586 hg w14 hbox hb; have n0_ := Aside0.mk (Kd.R_below (by (with_reducible repeat (first | apply Kd.R_alloc | apply Kd.R_drewN | apply Kd.R_drew)); exact HO577.out) hb); have n1_ := Aside0.mk (blk_below (g := gb581) (o := .cells #[.int .i64 t578, .int .i64 t579, .int .i64 t580] 28 (0, 0)) (by (with_reducible repeat (first | refine blk_drewN ?_ _ | refine blk_drew ?_ | refine blk_alloc ?_ _)); exact BK581.out) hb); have n2_ := Aside0.mk (below_step (by repeat (first | (with_reducible first | exact HB.out | apply below_alloc | apply pw_below_drewN | apply below_drew1 | refine below_set ?_ GE581.out) | exact HB.out)) hb); have n3_ := Aside0.mk (hbox); have n4_ := Aside0.mk ((by rw [hg]; exact (below_size (by repeat (first | (with_reducible first | exact HB.out | apply below_alloc | apply pw_below_drewN | apply below_drew1 | refine below_set ?_ GE581.out) | exact HB.out))) : w.heap.size ≤ gb586)); have n5_ := Aside0.mk ((by rw [hg]; exact (below_size (by repeat (first | (with_reducible first | exact HB.out | apply below_alloc | apply pw_below_drewN | apply below_drew1 | refine below_set ?_ GE581.out) | exact HB.out))) : w.heap.size ≤ gb586)); have n6_ := Aside0.mk ((by rw [hg]; exact Nat.ne_of_lt (blk_lt (g := gb581) (o := .cells #[.int .i64 t578, .int .i64 t579, .int .i64 t580] 28 (0, 0)) (by (with_reducible repeat (first | refine blk_drewN ?_ _ | refine blk_drew ?_ | refine blk_alloc ?_ _)); exact BK581.out)) : gb581 ≠ gb586)); have n7_ := Aside0.mk ((by rw [hg]; exact Nat.ne_of_gt (blk_lt (g := gb581) (o := .cells #[.int .i64 t578, .int .i64 t579, .int .i64 t580] 28 (0, 0)) (by (with_reducible repeat (first | refine blk_drewN ?_ _ | refine blk_drew ?_ | refine blk_alloc ?_ _)); exact BK581.out)) : gb586 ≠ gb581)); clear HO577; clear BK581; clear HB; have HO577 := n0_; have BK581 := n1_; have HB := n2_; have BK586 := n3_; have GW586 := n4_; have GE586 := n5_; have NB581_586 := n6_; have NB586_581 := n7_; clear n0_ n1_ n2_ n3_ n4_ n5_ n6_ n7_; clear hb hbox hg; have hnb15 := NB586_581.out; have hnc15 := NB581_586.out; have hcz16_0 : w14.cell? ⟨gb586, 0, none⟩ = some (.int .i64 0) := (blk_cell BK586.out 0).trans rfl; have hcz16_1 : w14.cell? ⟨gb586, 1, none⟩ = some (.int .i64 0) := (blk_cell BK586.out 1).trans rfl; have hcz16_2 : w14.cell? ⟨gb586, 2, none⟩ = some (.int .i64 0) := (blk_cell BK586.out 2).trans rfl; have hcz16_3 : w14.cell? ⟨gb586, 3, none⟩ = some (.int .i64 0) := (blk_cell BK586.out 3).trans rfl; have hfz16_0 := blk_frozen BK586.out 0; have hfz16_1 := blk_frozen BK586.out 1; have hfz16_2 := blk_frozen BK586.out 2; have hfz16_3 := blk_frozen BK586.out 3; have hcz17_0 : w14.cell? ⟨gb581, 0, none⟩ = some (.int .i64 t578) := (blk_cell BK581.out 0).trans rfl; have hcz17_1 : w14.cell? ⟨gb581, 1, none⟩ = some (.int .i64 t579) := (blk_cell BK581.out 1).trans rfl; have hcz17_2 : w14.cell? ⟨gb581, 2, none⟩ = some (.int .i64 t580) := (blk_cell BK581.out 2).trans rfl; have hfz17_0 := blk_frozen BK581.out 0; have hfz17_1 := blk_frozen BK581.out 1; have hfz17_2 := blk_frozen BK581.out 2) | ((with_reducible refine gate_callee (f := 17) rfl ?_); refine goesL_ (some 23) rfl rfl Try.func17 (by kernel_rfl) rfl #[.agg #[.int .i64 t578, .int .i64 t579, .int .i64 t580], .slice Ao12 t575.length co12] rfl (by (try simp only [List.map_toArray, List.map_cons, List.map_nil]); first | done | rfl | (simp only [List.length_drop, List.length_take]; rfl)) ?_; (with_reducible refine (impl_Holds.calls k t578 t579 t580 _ _ t575 t587 _ ?side1 ?side2 A6.out).mono ?_); (case side1 => refine (Kd.R_reads' (e := 9) (base := w.heap.size) (ok := fun k_ => True) (n := t575.length) (c := co12) ?_).2.2; exact (by (with_reducible repeat (first | apply Kd.R_alloc | apply Kd.R_drewN | apply Kd.R_drew)); exact (Kd.R_mono (Kd.R_far (p := ⟨gb586, 3, none⟩) (Kd.R_far (p := ⟨gb586, 2, none⟩) (Kd.R_far (p := ⟨gb586, 1, none⟩) (Kd.R_far (p := ⟨gb586, 0, none⟩) (Kd.R_types HO577.out BK586.out (by decide)) (fun _ hk => hk.2) (.int .i64 t582)) (fun _ hk => hk.2) (.int .i64 t583)) (fun _ hk => hk.2) (.int .i64 t584)) (fun _ hk => hk.2) (.int .i64 t585)) (fun _ h_ => h_.1)))); (case side2 => exact (Kd.R_reads' HO577.out).2.1); rintro e w18 ⟨v588, rfl, ho0, hb⟩; refine ⟨_, rfl, ?_⟩; have n0_ := Aside0.mk (Kd.R_elder' (by (with_reducible repeat (first | apply Kd.R_alloc | apply Kd.R_drewN | apply Kd.R_drew)); exact (Kd.R_mono (Kd.R_far (p := ⟨gb586, 3, none⟩) (Kd.R_far (p := ⟨gb586, 2, none⟩) (Kd.R_far (p := ⟨gb586, 1, none⟩) (Kd.R_far (p := ⟨gb586, 0, none⟩) (Kd.R_types HO577.out BK586.out (by decide)) (fun _ hk => hk.2) (.int .i64 t582)) (fun _ hk => hk.2) (.int .i64 t583)) (fun _ hk => hk.2) (.int .i64 t584)) (fun _ hk => hk.2) (.int .i64 t585)) (fun _ h_ => h_.1))) (Kd.R_base ho0) hb); have n1_ := Aside0.mk (Kd.R_lower (Kd.R_new' ho0 (Kd.R_lt (by (with_reducible repeat (first | apply Kd.R_alloc | apply Kd.R_drewN | apply Kd.R_drew)); exact (Kd.R_mono (Kd.R_far (p := ⟨gb586, 3, none⟩) (Kd.R_far (p := ⟨gb586, 2, none⟩) (Kd.R_far (p := ⟨gb586, 1, none⟩) (Kd.R_far (p := ⟨gb586, 0, none⟩) (Kd.R_types HO577.out BK586.out (by decide)) (fun _ hk => hk.2) (.int .i64 t582)) (fun _ hk => hk.2) (.int .i64 t583)) (fun _ hk => hk.2) (.int .i64 t584)) (fun _ hk => hk.2) (.int .i64 t585)) (fun _ h_ => h_.1))))) (below_size (by repeat (first | (with_reducible first | exact HB.out | apply below_alloc | apply pw_below_drewN | apply below_drew1 | refine below_set ?_ GE581.out | refine below_set ?_ GE586.out) | exact HB.out)))); have n2_ := Aside0.mk (blk_below (g := gb581) (o := .cells #[.int .i64 t578, .int .i64 t579, .int .i64 t580] 28 (0, 0)) (by (with_reducible repeat (first | refine blk_drewN ?_ _ | refine blk_drew ?_ | refine blk_alloc ?_ _)); refine blk_far ?_ NB581_586.out _; (with_reducible repeat (first | refine blk_drewN ?_ _ | refine blk_drew ?_ | refine blk_alloc ?_ _)); refine blk_far ?_ NB581_586.out _; (with_reducible repeat (first | refine blk_drewN ?_ _ | refine blk_drew ?_ | refine blk_alloc ?_ _)); refine blk_far ?_ NB581_586.out _; (with_reducible repeat (first | refine blk_drewN ?_ _ | refine blk_drew ?_ | refine blk_alloc ?_ _)); refine blk_far ?_ NB581_586.out _; (with_reducible repeat (first | refine blk_drewN ?_ _ | refine blk_drew ?_ | refine blk_alloc ?_ _)); exact BK581.out) hb); have n3_ := Aside0.mk (blk_below (g := gb586) (o := .cells #[.int .i64 t582, .int .i64 t583, .int .i64 t584, .int .i64 t585] 45 (0, 0)) (by (with_reducible repeat (first | refine blk_drewN ?_ _ | refine blk_drew ?_ | refine blk_alloc ?_ _)); refine blk_put (cs := #[.int .i64 t582, .int .i64 t583, .int .i64 t584, .int .i64 0]) ?_ 3 _ rfl; (with_reducible repeat (first | refine blk_drewN ?_ _ | refine blk_drew ?_ | refine blk_alloc ?_ _)); refine blk_put (cs := #[.int .i64 t582, .int .i64 t583, .int .i64 0, .int .i64 0]) ?_ 2 _ rfl; (with_reducible repeat (first | refine blk_drewN ?_ _ | refine blk_drew ?_ | refine blk_alloc ?_ _)); refine blk_put (cs := #[.int .i64 t582, .int .i64 0, .int .i64 0, .int .i64 0]) ?_ 1 _ rfl; (with_reducible repeat (first | refine blk_drewN ?_ _ | refine blk_drew ?_ | refine blk_alloc ?_ _)); refine blk_put (cs := #[.int .i64 0, .int .i64 0, .int .i64 0, .int .i64 0]) ?_ 0 _ rfl; (with_reducible repeat (first | refine blk_drewN ?_ _ | refine blk_drew ?_ | refine blk_alloc ?_ _)); exact BK586.out) hb); have n4_ := Aside0.mk (below_step (by repeat (first | (with_reducible first | exact HB.out | apply below_alloc | apply pw_below_drewN | apply below_drew1 | refine below_set ?_ GE581.out | refine below_set ?_ GE586.out) | exact HB.out)) hb); clear HO577; clear BK581; clear BK586; clear HB; have HO577 := n0_; have HO589 := n1_; have BK581 := n2_; have BK586 := n3_; have HB := n4_; clear n0_ n1_ n2_ n3_ n4_; (try clear hb); (try clear hb2); (try clear hk); (try clear hi); (try clear ho0)))
  (try simp only [Act.put, List.setIfInBounds_toArray, List.set_cons_zero, List.set_cons_succ])
  go_cut [69] (fun v69 wc => ∃ (kq : Nat) (x69_6 : Bool), v69 = .bool x69_6 ∧ Aside0 (laws_FnCount.j0 kq t575 t587 x69_6 t578 t579 t580 t582 t583 t584 t585 = some true) ∧ Aside0 (kq ≤ k) ∧ Aside0 (Kd.R Kd.string 9 wc w.heap.size (fun k_ => some k_ ≠ (v588 : Value).ownBlock) (.slice Ao12 t575.length co12) t575) ∧ Aside0 (Kd.R Kd.string 9 wc w.heap.size (fun k_ => some k_ ≠ ((.slice Ao12 t575.length co12) : Value).ownBlock) v588 t587) ∧ Aside0 (wc.heap[gb581]? = some (.cells #[.int .i64 t578, .int .i64 t579, .int .i64 t580] 28 (0, 0))) ∧ Aside0 (wc.heap[gb586]? = some (.cells #[.int .i64 t582, .int .i64 t583, .int .i64 t584, .int .i64 t585] 45 (0, 0))) ∧ Aside0 (Below w.heap.size w wc))
  case first =>
   have H := HC7.out
   clear HC7
   replace H := Option.bind_eq_some_iff.mp H
   obtain ⟨t590, A190, H⟩ := H
   replace H : (if t590 = true then (if t582 = (t575.length : Int) then (if (wrap64 (t583 + t584)) = t582 then (if t585 = (wrap64 (t584 - (t587.length : Int))) then (if (t587.length : Int) > t579 then (laws_FnCount.j0 k t575 t587 true t578 t579 t580 t582 t583 t584 t585) else ((laws_less.f (decide ((t575.length : Int) > 0))).bind fun t591 => (laws_FnCount.j0 k t575 t587 (decide ((t587.length : Int) < t591)) t578 t579 t580 t582 t583 t584 t585))) else (laws_FnCount.j0 k t575 t587 true t578 t579 t580 t582 t583 t584 t585)) else (laws_FnCount.j0 k t575 t587 true t578 t579 t580 t582 t583 t584 t585)) else (laws_FnCount.j0 k t575 t587 true t578 t579 t580 t582 t583 t584 t585)) else (laws_FnCount.j0 k t575 t587 true t578 t579 t580 t582 t583 t584 t585)) = some true := H
   have A19 := Aside0.mk A190
   clear A190
   by_cases c20 : t590 = true
   ·subst c20
    have H1 : (if t582 = (t575.length : Int) then (if (wrap64 (t583 + t584)) = t582 then (if t585 = (wrap64 (t584 - (t587.length : Int))) then (if (t587.length : Int) > t579 then (laws_FnCount.j0 k t575 t587 true t578 t579 t580 t582 t583 t584 t585) else ((laws_less.f (decide ((t575.length : Int) > 0))).bind fun t591 => (laws_FnCount.j0 k t575 t587 (decide ((t587.length : Int) < t591)) t578 t579 t580 t582 t583 t584 t585))) else (laws_FnCount.j0 k t575 t587 true t578 t579 t580 t582 t583 t584 t585)) else (laws_FnCount.j0 k t575 t587 true t578 t579 t580 t582 t583 t584 t585)) else (laws_FnCount.j0 k t575 t587 true t578 t579 t580 t582 t583 t584 t585)) = some true := by rw [if_pos rfl] at H; exact H
    clear H
    have H := H1
    clear H1
    by_cases c21 : t582 = (t575.length : Int)
    ·rw [if_pos c21] at H
     have c21b0 : (t582 == (t575.length : Int)) = true := beq_iff_eq.mpr c21
     have c21b1 : (t582 != (t575.length : Int)) = false := bne_eq_false_iff_eq.mpr c21
     clear c21
     (first | rw [c21b0] | (simp only [i64_w, i32_w]; rw [c21b0]) | skip)
     by_cases c22 : (wrap64 (t583 + t584)) = t582
     ·rw [if_pos c22] at H
      have c22b0 : ((wrap64 (t583 + t584)) == t582) = true := beq_iff_eq.mpr c22
      have c22b1 : ((wrap64 (t583 + t584)) != t582) = false := bne_eq_false_iff_eq.mpr c22
      clear c22
      by_cases c23 : t585 = (wrap64 (t584 - (t587.length : Int)))
      ·rw [if_pos c23] at H
       have c23b0 : (t585 == (wrap64 (t584 - (t587.length : Int)))) = true := beq_iff_eq.mpr c23
       have c23b1 : (t585 != (wrap64 (t584 - (t587.length : Int)))) = false := bne_eq_false_iff_eq.mpr c23
       clear c23
       by_cases c24 : (t587.length : Int) > t579
       ·rw [if_pos c24] at H
        exact absurd H (laws_FnCount.j0_no _ _ _ _ _ _ _ _ _ _)
       ·rw [if_neg c24] at H
        have c24b0 : decide (t579 < (t587.length : Int)) = false := decide_eq_false c24
        clear c24
        replace H := Option.bind_eq_some_iff.mp H
        obtain ⟨t591, A310, H⟩ := H
        replace H : (laws_FnCount.j0 k t575 t587 (decide ((t587.length : Int) < t591)) t578 t579 t580 t582 t583 t584 t585) = some true := H
        have A31 := Aside0.mk A310
        clear A310
        have H' := Aside0.mk H
        clear H
        have hnb32 := NB581_586.out
        have hnc32 := NB586_581.out
        have hcz33_0 : w18.cell? ⟨gb581, 0, none⟩ = some (.int .i64 t578) := (blk_cell BK581.out 0).trans rfl
        have hcz33_1 : w18.cell? ⟨gb581, 1, none⟩ = some (.int .i64 t579) := (blk_cell BK581.out 1).trans rfl
        have hcz33_2 : w18.cell? ⟨gb581, 2, none⟩ = some (.int .i64 t580) := (blk_cell BK581.out 2).trans rfl
        have hfz33_0 := blk_frozen BK581.out 0
        have hfz33_1 := blk_frozen BK581.out 1
        have hfz33_2 := blk_frozen BK581.out 2
        go_wp2_with (first | ((with_reducible refine gate_callee (f := 33) rfl ?_); refine goesL_ (some 25) rfl rfl Try.func33 (by kernel_rfl) rfl #[.agg #[.int .i64 t578, .int .i64 t579, .int .i64 t580]] rfl (by (try simp only [List.map_toArray, List.map_cons, List.map_nil]); first | done | rfl | (simp only [List.length_drop, List.length_take]; rfl)) ?_; (with_reducible refine (impl_SetupOk.calls k t578 t579 t580 true _ A19.out).mono ?_); rintro e w34 ⟨rfl, hb⟩; refine ⟨_, rfl, ?_⟩; have n0_ := Aside0.mk (Kd.R_below (by (with_reducible repeat (first | apply Kd.R_alloc | apply Kd.R_drewN | apply Kd.R_drew)); exact HO577.out) hb); have n1_ := Aside0.mk (Kd.R_below (by (with_reducible repeat (first | apply Kd.R_alloc | apply Kd.R_drewN | apply Kd.R_drew)); exact HO589.out) hb); have n2_ := Aside0.mk (blk_below (g := gb581) (o := .cells #[.int .i64 t578, .int .i64 t579, .int .i64 t580] 28 (0, 0)) (by (with_reducible repeat (first | refine blk_drewN ?_ _ | refine blk_drew ?_ | refine blk_alloc ?_ _)); exact BK581.out) hb); have n3_ := Aside0.mk (blk_below (g := gb586) (o := .cells #[.int .i64 t582, .int .i64 t583, .int .i64 t584, .int .i64 t585] 45 (0, 0)) (by (with_reducible repeat (first | refine blk_drewN ?_ _ | refine blk_drew ?_ | refine blk_alloc ?_ _)); exact BK586.out) hb); have n4_ := Aside0.mk (below_step (by repeat (first | (with_reducible first | exact HB.out | apply below_alloc | apply pw_below_drewN | apply below_drew1 | refine below_set ?_ GE581.out | refine below_set ?_ GE586.out) | exact HB.out)) hb); clear HO577; clear HO589; clear BK581; clear BK586; clear HB; have HO577 := n0_; have HO589 := n1_; have BK581 := n2_; have BK586 := n3_; have HB := n4_; clear n0_ n1_ n2_ n3_ n4_; (try clear hb); (try clear hb2); (try clear hk); (try clear hi); have hcz35_0 : w34.cell? ⟨gb586, 0, none⟩ = some (.int .i64 t582) := (blk_cell BK586.out 0).trans rfl; have hcz35_1 : w34.cell? ⟨gb586, 1, none⟩ = some (.int .i64 t583) := (blk_cell BK586.out 1).trans rfl; have hcz35_2 : w34.cell? ⟨gb586, 2, none⟩ = some (.int .i64 t584) := (blk_cell BK586.out 2).trans rfl; have hcz35_3 : w34.cell? ⟨gb586, 3, none⟩ = some (.int .i64 t585) := (blk_cell BK586.out 3).trans rfl; have hfz35_0 := blk_frozen BK586.out 0; have hfz35_1 := blk_frozen BK586.out 1; have hfz35_2 := blk_frozen BK586.out 2; have hfz35_3 := blk_frozen BK586.out 3; obtain ⟨Ao36, co36, eo36⟩ := Kd.R_slice HO589.out; subst eo36; have hcz37_0 : w34.cell? ⟨gb581, 0, none⟩ = some (.int .i64 t578) := (blk_cell BK581.out 0).trans rfl; have hcz37_1 : w34.cell? ⟨gb581, 1, none⟩ = some (.int .i64 t579) := (blk_cell BK581.out 1).trans rfl; have hcz37_2 : w34.cell? ⟨gb581, 2, none⟩ = some (.int .i64 t580) := (blk_cell BK581.out 2).trans rfl; have hfz37_0 := blk_frozen BK581.out 0; have hfz37_1 := blk_frozen BK581.out 1; have hfz37_2 := blk_frozen BK581.out 2) | (go_at_call 19; (with_reducible refine (laws_less.calls (decide (0 < t575.length)) t591 _ ((congrArg laws_less.f (decide_eq_decide.mpr (by omega))).trans A31.out)).mono ?_); rintro e w' ⟨rfl, ⟨nd, rfl⟩⟩))
        go_meet
        case rel => exact ⟨_, (decide ((t587.length : Int) < t591)), (by first | rfl | (simp; done) | (simp [*]; done)), H', ⟨by first | omega | exact Nat.le_refl _⟩, ⟨by (with_reducible repeat (first | apply Kd.R_alloc | apply Kd.R_drewN | apply Kd.R_drew)); exact Kd.R_mono HO577.out (fun _ hk => hk.2)⟩, ⟨by (with_reducible repeat (first | apply Kd.R_alloc | apply Kd.R_drewN | apply Kd.R_drew)); exact Kd.R_mono HO589.out (fun _ hk => hk.2)⟩, ⟨by (with_reducible repeat (first | refine blk_drewN ?_ _ | refine blk_drew ?_ | refine blk_alloc ?_ _)); exact BK581.out⟩, ⟨by (with_reducible repeat (first | refine blk_drewN ?_ _ | refine blk_drew ?_ | refine blk_alloc ?_ _)); exact BK586.out⟩, ⟨by repeat (first | (with_reducible first | exact HB.out | apply below_alloc | apply pw_below_drewN | apply below_drew1 | refine below_set ?_ GE581.out | refine below_set ?_ GE586.out) | exact HB.out)⟩⟩
      ·rw [if_neg c23] at H
       exact absurd H (laws_FnCount.j0_no _ _ _ _ _ _ _ _ _ _)
     ·rw [if_neg c22] at H
      exact absurd H (laws_FnCount.j0_no _ _ _ _ _ _ _ _ _ _)
    ·rw [if_neg c21] at H
     exact absurd H (laws_FnCount.j0_no _ _ _ _ _ _ _ _ _ _)
   ·replace c20 := Bool.eq_false_iff.mpr c20
    subst c20
    have H1 : (laws_FnCount.j0 k t575 t587 true t578 t579 t580 t582 t583 t584 t585) = some true := by rw [if_neg (show ¬ (false = true) by decide)] at H; exact H
    exact absurd H1 (laws_FnCount.j0_no _ _ _ _ _ _ _ _ _ _)
  case rest =>
   clear HC7
   try clear c1
   try clear c2
   try clear c2b0
   try clear c2b1
   try clear p2
   try clear c3
   try clear c4
   try clear c5
   try clear c6
   try clear p6
   try clear c15
   try clear c17
   try clear c20
   try clear c21
   try clear c21b0
   try clear c21b1
   try clear c22
   try clear c22b0
   try clear c22b1
   try clear c23
   try clear c23b0
   try clear c23b1
   try clear c24
   try clear c24b0
   try clear c25
   try clear c32
   try clear c33
   try clear c38
   try clear c43
   try clear c47
   try clear c51
   try clear hcz11_0
   try clear hcz11_1
   try clear hcz11_2
   try clear hcz16_0
   try clear hcz16_1
   try clear hcz16_2
   try clear hcz16_3
   try clear hcz17_0
   try clear hcz17_1
   try clear hcz17_2
   try clear hcz26_0
   try clear hcz26_1
   try clear hcz26_2
   try clear hcz28_0
   try clear hcz28_1
   try clear hcz28_2
   try clear hcz28_3
   try clear hcz30_0
   try clear hcz30_1
   try clear hcz30_2
   try clear hcz33_0
   try clear hcz33_1
   try clear hcz33_2
   try clear hcz35_0
   try clear hcz35_1
   try clear hcz35_2
   try clear hcz35_3
   try clear hcz37_0
   try clear hcz37_1
   try clear hcz37_2
   try clear hcz39_0
   try clear hcz39_1
   try clear hcz39_2
   try clear hcz41_0
   try clear hcz41_1
   try clear hcz41_2
   try clear hcz41_3
   try clear hcz44_0
   try clear hcz44_1
   try clear hcz44_2
   try clear hcz46_0
   try clear hcz46_1
   try clear hcz46_2
   try clear hcz46_3
   try clear hcz48_0
   try clear hcz48_1
   try clear hcz48_2
   try clear hcz50_0
   try clear hcz50_1
   try clear hcz50_2
   try clear hcz50_3
   try clear hcz52_0
   try clear hcz52_1
   try clear hcz52_2
   try clear hfz11_0
   try clear hfz11_1
   try clear hfz11_2
   try clear hfz16_0
   try clear hfz16_1
   try clear hfz16_2
   try clear hfz16_3
   try clear hfz17_0
   try clear hfz17_1
   try clear hfz17_2
   try clear hfz26_0
   try clear hfz26_1
   try clear hfz26_2
   try clear hfz28_0
   try clear hfz28_1
   try clear hfz28_2
   try clear hfz28_3
   try clear hfz30_0
   try clear hfz30_1
   try clear hfz30_2
   try clear hfz33_0
   try clear hfz33_1
   try clear hfz33_2
   try clear hfz35_0
   try clear hfz35_1
   try clear hfz35_2
   try clear hfz35_3
   try clear hfz37_0
   try clear hfz37_1
   try clear hfz37_2
   try clear hfz39_0
   try clear hfz39_1
   try clear hfz39_2
   try clear hfz41_0
   try clear hfz41_1
   try clear hfz41_2
   try clear hfz41_3
   try clear hfz44_0
   try clear hfz44_1
   try clear hfz44_2
   try clear hfz46_0
   try clear hfz46_1
   try clear hfz46_2
   try clear hfz46_3
   try clear hfz48_0
   try clear hfz48_1
   try clear hfz48_2
   try clear hfz50_0
   try clear hfz50_1
   try clear hfz50_2
   try clear hfz50_3
   try clear hfz52_0
   try clear hfz52_1
   try clear hfz52_2
   obtain ⟨kq, x69_6, rfl, HA, HJ6, HO_3, HO_6, BK581, BK586, HB⟩ := hcut
   cases kq with
   | zero => exact absurd HA.out (by simp [laws_FnCount.j0])
   | succ kj6 =>
    have H := HA.out
    clear HA
    simp only [laws_FnCount.j0] at H
    by_cases c54 : x69_6 = true
    ·subst c54
     have H1 : (some false) = some true := by rw [if_pos rfl] at H; exact H
     exact absurd H1 (by simp)
    ·replace c54 := Bool.eq_false_iff.mpr c54
     subst c54
     have H1 : ((some (([] : List ByteArray) : List ByteArray)).bind fun y592 => (if y592.length + t575.length < 8796093022208 then ((some (y592 ++ t575 : List ByteArray)).bind fun y595 => ((some (([(⟨#[110, 101, 119]⟩ : ByteArray)] : List ByteArray) : List ByteArray)).bind fun y598 => (if y595.length + y598.length < 8796093022208 then ((impl_HitsOf.f kj6 t578 t579 t580 (y595 ++ y598)).bind fun t604 => (if (t604.length : Int) = (wrap64 ((t575.length : Int) + 1)) then (if 0 ≤ (t575.length : Int) then (if (t575.length : Int) < (t604.length : Int) then (laws_FnCount.j1 kj6 t575 t587 (rdOf false t604 (t575.length : Int)) t578 t579 t580 t582 t583 t584 t585) else (none)) else (none)) else (laws_FnCount.j1 kj6 t575 t587 true t578 t579 t580 t582 t583 t584 t585))) else (none)))) else (none))) = some true := by rw [if_neg (show ¬ (false = true) by decide)] at H; exact H
     clear H
     have H := H1
     clear H1
     obtain ⟨y592, hy592⟩ : ∃ y_ : List ByteArray, y_ = (([] : List ByteArray)) := ⟨_, rfl⟩
     replace H : (if y592.length + t575.length < 8796093022208 then ((some (y592 ++ t575 : List ByteArray)).bind fun y595 => ((some (([(⟨#[110, 101, 119]⟩ : ByteArray)] : List ByteArray) : List ByteArray)).bind fun y598 => (if y595.length + y598.length < 8796093022208 then ((impl_HitsOf.f kj6 t578 t579 t580 (y595 ++ y598)).bind fun t604 => (if (t604.length : Int) = (wrap64 ((t575.length : Int) + 1)) then (if 0 ≤ (t575.length : Int) then (if (t575.length : Int) < (t604.length : Int) then (laws_FnCount.j1 kj6 t575 t587 (rdOf false t604 (t575.length : Int)) t578 t579 t580 t582 t583 t584 t585) else (none)) else (none)) else (laws_FnCount.j1 kj6 t575 t587 true t578 t579 t580 t582 t583 t584 t585))) else (none)))) else (none)) = some true := by first | (rw [hy592]; with_reducible exact H) | (have H2_ := (Option.bind_some _ _).symm.trans H; rw [hy592]; with_reducible exact H2_) | (have H2_ := (Option.bind_some _ _).symm.trans H; with_reducible exact H2_) | with_reducible exact H | (rw [hy592]; exact H) | exact H
     have Ny592 := Aside0.mk hy592
     clear hy592
     by_cases c55 : y592.length + t575.length < 8796093022208
     ·rw [if_pos c55] at H
      have LMc55 := Aside0.mk c55
      clear c55
      obtain ⟨y595, hy595⟩ : ∃ y_ : List ByteArray, y_ = (y592 ++ t575) := ⟨_, rfl⟩
      replace H : ((some (([(⟨#[110, 101, 119]⟩ : ByteArray)] : List ByteArray) : List ByteArray)).bind fun y598 => (if y595.length + y598.length < 8796093022208 then ((impl_HitsOf.f kj6 t578 t579 t580 (y595 ++ y598)).bind fun t604 => (if (t604.length : Int) = (wrap64 ((t575.length : Int) + 1)) then (if 0 ≤ (t575.length : Int) then (if (t575.length : Int) < (t604.length : Int) then (laws_FnCount.j1 kj6 t575 t587 (rdOf false t604 (t575.length : Int)) t578 t579 t580 t582 t583 t584 t585) else (none)) else (none)) else (laws_FnCount.j1 kj6 t575 t587 true t578 t579 t580 t582 t583 t584 t585))) else (none))) = some true := by first | (rw [hy595]; with_reducible exact H) | (have H2_ := (Option.bind_some _ _).symm.trans H; rw [hy595]; with_reducible exact H2_) | (have H2_ := (Option.bind_some _ _).symm.trans H; with_reducible exact H2_) | with_reducible exact H | (rw [hy595]; exact H) | exact H
      have Ny595 := Aside0.mk hy595
      clear hy595
      obtain ⟨y598, hy598⟩ : ∃ y_ : List ByteArray, y_ = (([(⟨#[110, 101, 119]⟩ : ByteArray)] : List ByteArray)) := ⟨_, rfl⟩
      replace H : (if y595.length + y598.length < 8796093022208 then ((impl_HitsOf.f kj6 t578 t579 t580 (y595 ++ y598)).bind fun t604 => (if (t604.length : Int) = (wrap64 ((t575.length : Int) + 1)) then (if 0 ≤ (t575.length : Int) then (if (t575.length : Int) < (t604.length : Int) then (laws_FnCount.j1 kj6 t575 t587 (rdOf false t604 (t575.length : Int)) t578 t579 t580 t582 t583 t584 t585) else (none)) else (none)) else (laws_FnCount.j1 kj6 t575 t587 true t578 t579 t580 t582 t583 t584 t585))) else (none)) = some true := by first | (rw [hy598]; with_reducible exact H) | (have H2_ := (Option.bind_some _ _).symm.trans H; rw [hy598]; with_reducible exact H2_) | (have H2_ := (Option.bind_some _ _).symm.trans H; with_reducible exact H2_) | with_reducible exact H | (rw [hy598]; exact H) | exact H
      have Ny598 := Aside0.mk hy598
      clear hy598
      by_cases c56 : y595.length + y598.length < 8796093022208
      ·rw [if_pos c56] at H
       have LMc56 := Aside0.mk c56
       clear c56
       obtain ⟨y601, hy601⟩ : ∃ y_ : List ByteArray, y_ = (y595 ++ y598) := ⟨_, rfl⟩
       replace H : ((impl_HitsOf.f kj6 t578 t579 t580 y601).bind fun t604 => (if (t604.length : Int) = (wrap64 ((t575.length : Int) + 1)) then (if 0 ≤ (t575.length : Int) then (if (t575.length : Int) < (t604.length : Int) then (laws_FnCount.j1 kj6 t575 t587 (rdOf false t604 (t575.length : Int)) t578 t579 t580 t582 t583 t584 t585) else (none)) else (none)) else (laws_FnCount.j1 kj6 t575 t587 true t578 t579 t580 t582 t583 t584 t585))) = some true := by first | (rw [hy601]; with_reducible exact H) | (have H2_ := (Option.bind_some _ _).symm.trans H; rw [hy601]; with_reducible exact H2_) | (have H2_ := (Option.bind_some _ _).symm.trans H; with_reducible exact H2_) | with_reducible exact H | (rw [hy601]; exact H) | exact H
       have Ny601 := Aside0.mk hy601
       clear hy601
       replace H := Option.bind_eq_some_iff.mp H
       obtain ⟨t604, A570, H⟩ := H
       replace H : (if (t604.length : Int) = (wrap64 ((t575.length : Int) + 1)) then (if 0 ≤ (t575.length : Int) then (if (t575.length : Int) < (t604.length : Int) then (laws_FnCount.j1 kj6 t575 t587 (rdOf false t604 (t575.length : Int)) t578 t579 t580 t582 t583 t584 t585) else (none)) else (none)) else (laws_FnCount.j1 kj6 t575 t587 true t578 t579 t580 t582 t583 t584 t585)) = some true := H
       have A57 := Aside0.mk A570
       clear A570
       have HC58 := Aside0.mk H
       clear H
       try go_wp2
       have n0_ := Aside0.mk (Kd.R_drew HO_3.out)
       have n1_ := Aside0.mk (Kd.R_drew HO_6.out)
       have n2_ := Aside0.mk (blk_drew BK581.out)
       have n3_ := Aside0.mk (blk_drew BK586.out)
       have n4_ := Aside0.mk (below_drew1 HB.out)
       clear HO_3
       clear HO_6
       clear BK581
       clear BK586
       clear HB
       have HO_3 := n0_
       have HO_6 := n1_
       have BK581 := n2_
       have BK586 := n3_
       have HB := n4_
       clear n0_ n1_ n2_ n3_ n4_
       refine start_ (n := 8) (S := fun w' => w'.cell? ⟨gb581, 0, none⟩ = some (.int .i64 t578) ∧ w'.cell? ⟨gb581, 1, none⟩ = some (.int .i64 t579) ∧ w'.cell? ⟨gb581, 2, none⟩ = some (.int .i64 t580)) (ds := []) #[false, false, false, false, false, false, false, false] (by kernel_rfl) rfl rfl ⟨(blk_cell BK581.out 0).trans rfl, (blk_cell BK581.out 1).trans rfl, (blk_cell BK581.out 2).trans rfl⟩ (fun hHeld => ?_); refine with_tabW laws_FnCount.tab9 laws_FnCount.bits9 (fun HT_ HW_ => ?_)
       generalize wc.drew = w59 at HO_3 HO_6 BK581 BK586 HB hHeld ⊢
       refine pure_ (i := 2) (N := some 72) (v := ?_) (a' := ?_) #[false, false, true, false, false, false, false, false] rfl rfl (any_of HT_.out (by kernel_rfl)) (fun _ _ _ h => h) (Or.inl ⟨by rfl, ?_⟩) ?_ ?_
       rotate_left
       ·intro w'
        go_simp
        with_reducible rfl
       rotate_left
       ·simp only [Act.put, lz1, lz2, lz3, i64_w, i32_w]
        rfl
       refine take_ (i := 0) (N := some 70) (v := ?_) (a' := ?_) #[true, false, true, false, false, false, false, false] rfl rfl (take_ofW HT_.out HW_.out (by kernel_rfl)) (fun _ _ _ h => h) (Or.inl ⟨by rfl, ?_⟩) hHeld ?_ ?_
       rotate_left
       ·rintro w' ⟨s0, s1, s2⟩
        go_simp
        with_reducible rfl
       rotate_left
       ·simp only [Act.put, lz1, lz2, lz3, i64_w, i32_w]
        rfl
       refine join_ (σ := Value × Value × Value) 3 #[true, true, true, true, true, false, false, false] (fun s_ => [(71, s_.1), (73, s_.2.1), (74, s_.2.2)]) (fun s_ w' => (w'.cell? ⟨gb581, 0, none⟩ = some (.int .i64 t578) ∧ w'.cell? ⟨gb581, 1, none⟩ = some (.int .i64 t579) ∧ w'.cell? ⟨gb581, 2, none⟩ = some (.int .i64 t580)) ∧ (Kd.R Kd.string 9 w' w.heap.size (fun k_ => some k_ ≠ (s_.2.2 : Value).ownBlock ∧ some k_ ≠ (.slice Ao12 t575.length co12 : Value).ownBlock ∧ some k_ ≠ (v588 : Value).ownBlock) s_.2.1 y595) ∧ (Kd.R Kd.string 9 w' w.heap.size (fun k_ => some k_ ≠ (s_.2.1 : Value).ownBlock ∧ some k_ ≠ (.slice Ao12 t575.length co12 : Value).ownBlock ∧ some k_ ≠ (v588 : Value).ownBlock) s_.2.2 y598) ∧ (Kd.R Kd.string 9 w' w.heap.size (fun k_ => some k_ ≠ (s_.2.1 : Value).ownBlock ∧ some k_ ≠ (s_.2.2 : Value).ownBlock ∧ some k_ ≠ (v588 : Value).ownBlock) (.slice Ao12 t575.length co12) t575) ∧ (Kd.R Kd.string 9 w' w.heap.size (fun k_ => some k_ ≠ (s_.2.1 : Value).ownBlock ∧ some k_ ≠ (s_.2.2 : Value).ownBlock ∧ some k_ ≠ (.slice Ao12 t575.length co12 : Value).ownBlock) v588 t587) ∧ (w'.heap[gb581]? = some (.cells #[.int .i64 t578, .int .i64 t579, .int .i64 t580] 28 (0, 0))) ∧ (w'.heap[gb586]? = some (.cells #[.int .i64 t582, .int .i64 t583, .int .i64 t584, .int .i64 t585] 45 (0, 0))) ∧ (Below w.heap.size w w')) ?_ ?_
       rotate_left
       ·intro hCont
        refine two_ (i := 1) (j := 4) (Ni := some 71) (Nj := some 74) #[true, true, true, false, false, false, false, false] #[true, false, true, false, true, false, false, false] rfl rfl rfl rfl (two_of HT_.out (by kernel_rfl)) (by decide) (by decide) (fun K hK => ?_) (fun K hK => ?_)
        ·skip
         refine Kd.R_lit_step Kd.string _ 9 ?hg (N := 71) ?hd (xs := ([] : List ByteArray)) (inner := []) (ok := fun _ => True) (okp := fun _ => True) ?hr ?hp (fun _ hk => hk) trivial (Below.refl _ _) (Nat.le_refl _) (by simp) ?_; (case hd => rfl); (case hg => rfl); (case hr => first | (go_simp; done) | (go_simp; rfl)); (case hp => exact (Reps.none _ _))
         intro v593 w60 ho61 hb hg_ hnew_
         clear hg_ hnew_
         (first | rw [← Ny592.out] at ho61 | (simp only [Int.reduceToNat] at ho61; rw [← Ny592.out] at ho61))
         have n0_ := Aside0.mk (Kd.R_elder' (by (with_reducible repeat (first | apply Kd.R_alloc | apply Kd.R_drewN | apply Kd.R_drew)); exact HO_3.out) (Kd.R_base ho61) hb)
         have n1_ := Aside0.mk (Kd.R_elder' (by (with_reducible repeat (first | apply Kd.R_alloc | apply Kd.R_drewN | apply Kd.R_drew)); exact HO_6.out) (Kd.R_base ho61) hb)
         have n2_ := Aside0.mk (Kd.R_lower (Kd.R_new' (Kd.R_new' ho61 (Kd.R_lt (by (with_reducible repeat (first | apply Kd.R_alloc | apply Kd.R_drewN | apply Kd.R_drew)); exact HO_3.out))) (Kd.R_lt (by (with_reducible repeat (first | apply Kd.R_alloc | apply Kd.R_drewN | apply Kd.R_drew)); exact HO_6.out))) (below_size (by repeat (first | (with_reducible first | exact HB.out | apply below_alloc | apply pw_below_drewN | apply below_drew1 | refine below_set ?_ GE581.out | refine below_set ?_ GE586.out) | exact HB.out))))
         have n3_ := Aside0.mk (blk_below (g := gb581) (o := .cells #[.int .i64 t578, .int .i64 t579, .int .i64 t580] 28 (0, 0)) (by (with_reducible repeat (first | refine blk_drewN ?_ _ | refine blk_drew ?_ | refine blk_alloc ?_ _)); exact BK581.out) hb)
         have n4_ := Aside0.mk (blk_below (g := gb586) (o := .cells #[.int .i64 t582, .int .i64 t583, .int .i64 t584, .int .i64 t585] 45 (0, 0)) (by (with_reducible repeat (first | refine blk_drewN ?_ _ | refine blk_drew ?_ | refine blk_alloc ?_ _)); exact BK586.out) hb)
         have n5_ := Aside0.mk (below_step (by repeat (first | (with_reducible first | exact HB.out | apply below_alloc | apply pw_below_drewN | apply below_drew1 | refine below_set ?_ GE581.out | refine below_set ?_ GE586.out) | exact HB.out)) hb)
         clear HO_3
         clear HO_6
         clear BK581
         clear BK586
         clear HB
         have HO_3 := n0_
         have HO_6 := n1_
         have HO594 := n2_
         have BK581 := n3_
         have BK586 := n4_
         have HB := n5_
         clear n0_ n1_ n2_ n3_ n4_ n5_
         clear hb ho61
         refine hK.out _ _ ⟨(blk_cell BK581.out 0).trans rfl, (blk_cell BK581.out 1).trans rfl, (blk_cell BK581.out 2).trans rfl⟩ (fun hHeld => ?_)
         clear hK K
         refine norm_ (a' := ?_) ?_ ?_
         rotate_left
         ·show Act.put _ (some 71) _ = _
          simp only [Act.put, lz1, lz2, lz3, i64_w, i32_w]
          rfl
         refine two_ (i := 3) (j := 4) (Ni := some 73) (Nj := some 74) #[true, true, true, true, false, false, false, false] #[true, true, true, false, true, false, false, false] rfl rfl rfl rfl (two_of HT_.out (by kernel_rfl)) (by decide) (by decide) (fun K hK => ?_) (fun K hK => ?_)
         ·skip
          refine Kd.R_append_rows_step Kd.string (w0 := w) w.heap.size (by rfl) (.tmp 71) (.tmp 72) 23 9 (.string ⟨#[]⟩) 16 rfl Try.underlying23 info9 rfl (by decide) (by omega) v593 y592 t575 _ _ _ (fun k_ => some k_ ≠ (.slice Ao12 t575.length co12 : Value).ownBlock ∧ some k_ ≠ (v588 : Value).ownBlock) (fun _ => False) rfl rfl ?aO ?aR (fun _ _ h => h) (fun _ h => h.elim) ?aF ?aB ?aS ?aL ?_
          (case aR => repeat (first | exact (Kd.R_reads' HO_3.out).2.2 | (with_reducible refine Kd.C_alloc ?_ _) | (with_reducible refine Kd.C_drewN ?_ _) | (with_reducible refine Kd.C_drew ?_)))
          (case aB => exact (by repeat (first | (with_reducible first | exact HB.out | apply below_alloc | apply pw_below_drewN | apply below_drew1 | refine below_set ?_ GE581.out | refine below_set ?_ GE586.out) | exact HB.out)))
          (case aF => exact (fun k_ hk => ⟨Kd.fresh' (Kd.R_lt (by (with_reducible repeat (first | apply Kd.R_alloc | apply Kd.R_drewN | apply Kd.R_drew)); exact HO_3.out)) k_ hk, Kd.fresh' (Kd.R_lt (by (with_reducible repeat (first | apply Kd.R_alloc | apply Kd.R_drewN | apply Kd.R_drew)); exact HO_6.out)) k_ hk⟩))
          (case aO => exact (by (with_reducible repeat (first | apply Kd.R_alloc | apply Kd.R_drewN | apply Kd.R_drew)); exact Kd.R_mono HO594.out (fun _ hk => ⟨hk.1.2, hk.2⟩)))
          (case aS => exact (below_size (by repeat (first | (with_reducible first | exact HB.out | apply below_alloc | apply pw_below_drewN | apply below_drew1 | refine below_set ?_ GE581.out | refine below_set ?_ GE586.out) | exact HB.out))))
          (case aL => have := LMc55.out; omega)
          intro v596 w62 ho hb hg hat
          rw [← Ny595.out] at ho
          have n0_ := Aside0.mk (Kd.R_after (ok := (fun k_ => some k_ ≠ (v588 : Value).ownBlock)) (by (with_reducible repeat (first | apply Kd.R_alloc | apply Kd.R_drewN | apply Kd.R_drew)); exact HO_3.out) hg hat)
          have n1_ := Aside0.mk (Kd.R_after (ok := (fun k_ => some k_ ≠ (.slice Ao12 t575.length co12 : Value).ownBlock)) (by (with_reducible repeat (first | apply Kd.R_alloc | apply Kd.R_drewN | apply Kd.R_drew)); exact HO_6.out) hg hat)
          have n2_ := Aside0.mk (blk_grown (g := gb581) (o := .cells #[.int .i64 t578, .int .i64 t579, .int .i64 t580] 28 (0, 0)) (by (with_reducible repeat (first | refine blk_drewN ?_ _ | refine blk_drew ?_ | refine blk_alloc ?_ _)); exact BK581.out) hg (Kd.R_ne HO594.out BK581.out (by decide)))
          have n3_ := Aside0.mk (blk_grown (g := gb586) (o := .cells #[.int .i64 t582, .int .i64 t583, .int .i64 t584, .int .i64 t585] 45 (0, 0)) (by (with_reducible repeat (first | refine blk_drewN ?_ _ | refine blk_drew ?_ | refine blk_alloc ?_ _)); exact BK586.out) hg (Kd.R_ne HO594.out BK586.out (by decide)))
          have n4_ := Aside0.mk (hb)
          have n5_ := Aside0.mk (ho)
          clear HO_3
          clear HO_6
          clear BK581
          clear BK586
          clear HB
          clear HO594
          have HO_3 := n0_
          have HO_6 := n1_
          have BK581 := n2_
          have BK586 := n3_
          have HB := n4_
          have HO597 := n5_
          clear n0_ n1_ n2_ n3_ n4_ n5_
          clear ho hb hg hat
          refine hK.out _ _ ⟨(blk_cell BK581.out 0).trans rfl, (blk_cell BK581.out 1).trans rfl, (blk_cell BK581.out 2).trans rfl⟩ (fun hHeld => ?_)
          clear hK K
          refine norm_ (a' := ?_) ?_ ?_
          rotate_left
          ·show Act.put _ (some 73) _ = _
           simp only [Act.put, lz1, lz2, lz3, i64_w, i32_w]
           rfl
          refine one_ (i := 4) (N := some 74) #[true, true, true, true, true, false, false, false] rfl rfl (one_of HT_.out (by kernel_rfl)) (by decide) (fun K hK => ?_)
          refine Kd.R_lit_step Kd.string _ 9 ?hg (N := 74) ?hd (xs := ([(⟨#[110, 101, 119]⟩ : ByteArray)] : List ByteArray)) (inner := [.string (⟨#[110, 101, 119]⟩ : ByteArray)]) (ok := fun _ => True) (okp := fun _ => True) ?hr ?hp (fun _ hk => hk) trivial (Below.refl _ _) (Nat.le_refl _) (by simp) ?_; (case hd => rfl); (case hg => rfl); (case hr => first | (go_simp; done) | (go_simp; rfl)); (case hp => exact (Reps.one (show Kd.M Kd.string _ _ _ (⟨#[110, 101, 119]⟩ : ByteArray) [.string (⟨#[110, 101, 119]⟩ : ByteArray)] from rfl) (Reps.none _ _)))
          intro v599 w63 ho64 hb hg_ hnew_
          clear hg_ hnew_
          (first | rw [← Ny598.out] at ho64 | (simp only [Int.reduceToNat] at ho64; rw [← Ny598.out] at ho64))
          have n0_ := Aside0.mk (Kd.R_elder' (by (with_reducible repeat (first | apply Kd.R_alloc | apply Kd.R_drewN | apply Kd.R_drew)); exact HO_3.out) (Kd.R_base ho64) hb)
          have n1_ := Aside0.mk (Kd.R_elder' (by (with_reducible repeat (first | apply Kd.R_alloc | apply Kd.R_drewN | apply Kd.R_drew)); exact HO_6.out) (Kd.R_base ho64) hb)
          have n2_ := Aside0.mk (Kd.R_elder' (by (with_reducible repeat (first | apply Kd.R_alloc | apply Kd.R_drewN | apply Kd.R_drew)); exact HO597.out) (Kd.R_base ho64) hb)
          have n3_ := Aside0.mk (Kd.R_lower (Kd.R_new' (Kd.R_new' (Kd.R_new' ho64 (Kd.R_lt (by (with_reducible repeat (first | apply Kd.R_alloc | apply Kd.R_drewN | apply Kd.R_drew)); exact HO_3.out))) (Kd.R_lt (by (with_reducible repeat (first | apply Kd.R_alloc | apply Kd.R_drewN | apply Kd.R_drew)); exact HO_6.out))) (Kd.R_lt (by (with_reducible repeat (first | apply Kd.R_alloc | apply Kd.R_drewN | apply Kd.R_drew)); exact HO597.out))) (below_size (by repeat (first | (with_reducible first | exact HB.out | apply below_alloc | apply pw_below_drewN | apply below_drew1 | refine below_set ?_ GE581.out | refine below_set ?_ GE586.out) | exact HB.out))))
          have n4_ := Aside0.mk (blk_below (g := gb581) (o := .cells #[.int .i64 t578, .int .i64 t579, .int .i64 t580] 28 (0, 0)) (by (with_reducible repeat (first | refine blk_drewN ?_ _ | refine blk_drew ?_ | refine blk_alloc ?_ _)); exact BK581.out) hb)
          have n5_ := Aside0.mk (blk_below (g := gb586) (o := .cells #[.int .i64 t582, .int .i64 t583, .int .i64 t584, .int .i64 t585] 45 (0, 0)) (by (with_reducible repeat (first | refine blk_drewN ?_ _ | refine blk_drew ?_ | refine blk_alloc ?_ _)); exact BK586.out) hb)
          have n6_ := Aside0.mk (below_step (by repeat (first | (with_reducible first | exact HB.out | apply below_alloc | apply pw_below_drewN | apply below_drew1 | refine below_set ?_ GE581.out | refine below_set ?_ GE586.out) | exact HB.out)) hb)
          clear HO_3
          clear HO_6
          clear HO597
          clear BK581
          clear BK586
          clear HB
          have HO_3 := n0_
          have HO_6 := n1_
          have HO597 := n2_
          have HO600 := n3_
          have BK581 := n4_
          have BK586 := n5_
          have HB := n6_
          clear n0_ n1_ n2_ n3_ n4_ n5_ n6_
          clear hb ho64
          refine hK.out _ _ ⟨(blk_cell BK581.out 0).trans rfl, (blk_cell BK581.out 1).trans rfl, (blk_cell BK581.out 2).trans rfl⟩ (fun hHeld => ?_)
          clear hK K
          refine norm_ (a' := ?_) ?_ ?_
          rotate_left
          ·show Act.put _ (some 74) _ = _
           simp only [Act.put, lz1, lz2, lz3, i64_w, i32_w]
           rfl
          exact norm_ (by simp only [putAll, Act.put, List.setIfInBounds_toArray, List.set_cons_zero, List.set_cons_succ]) (hCont (v593, v596, v599) _ ⟨hHeld, (by (with_reducible repeat (first | apply Kd.R_alloc | apply Kd.R_drewN | apply Kd.R_drew)); exact Kd.R_mono HO597.out (fun _ hk => ⟨hk.2, ⟨hk.1.1, hk.1.2⟩⟩)), (by (with_reducible repeat (first | apply Kd.R_alloc | apply Kd.R_drewN | apply Kd.R_drew)); exact Kd.R_mono HO600.out (fun _ hk => ⟨hk.2, ⟨hk.1.1.2, hk.1.2⟩⟩)), (by (with_reducible repeat (first | apply Kd.R_alloc | apply Kd.R_drewN | apply Kd.R_drew)); exact Kd.R_mono HO_3.out (fun _ hk => ⟨hk.1.2, ⟨hk.2, hk.1.1⟩⟩)), (by (with_reducible repeat (first | apply Kd.R_alloc | apply Kd.R_drewN | apply Kd.R_drew)); exact Kd.R_mono HO_6.out (fun _ hk => ⟨hk.1.2, ⟨hk.2, hk.1.1⟩⟩)), (by (with_reducible repeat (first | refine blk_drewN ?_ _ | refine blk_drew ?_ | refine blk_alloc ?_ _)); exact BK581.out), (by (with_reducible repeat (first | refine blk_drewN ?_ _ | refine blk_drew ?_ | refine blk_alloc ?_ _)); exact BK586.out), (by repeat (first | (with_reducible first | exact HB.out | apply below_alloc | apply pw_below_drewN | apply below_drew1 | refine below_set ?_ GE581.out | refine below_set ?_ GE586.out) | exact HB.out))⟩)
         ·skip
          refine Kd.R_lit_step Kd.string _ 9 ?hg (N := 74) ?hd (xs := ([(⟨#[110, 101, 119]⟩ : ByteArray)] : List ByteArray)) (inner := [.string (⟨#[110, 101, 119]⟩ : ByteArray)]) (ok := fun _ => True) (okp := fun _ => True) ?hr ?hp (fun _ hk => hk) trivial (Below.refl _ _) (Nat.le_refl _) (by simp) ?_; (case hd => rfl); (case hg => rfl); (case hr => first | (go_simp; done) | (go_simp; rfl)); (case hp => exact (Reps.one (show Kd.M Kd.string _ _ _ (⟨#[110, 101, 119]⟩ : ByteArray) [.string (⟨#[110, 101, 119]⟩ : ByteArray)] from rfl) (Reps.none _ _)))
          intro v599 w62 ho63 hb hg_ hnew_
          clear hg_ hnew_
          (first | rw [← Ny598.out] at ho63 | (simp only [Int.reduceToNat] at ho63; rw [← Ny598.out] at ho63))
          have n0_ := Aside0.mk (Kd.R_elder' (by (with_reducible repeat (first | apply Kd.R_alloc | apply Kd.R_drewN | apply Kd.R_drew)); exact HO_3.out) (Kd.R_base ho63) hb)
          have n1_ := Aside0.mk (Kd.R_elder' (by (with_reducible repeat (first | apply Kd.R_alloc | apply Kd.R_drewN | apply Kd.R_drew)); exact HO_6.out) (Kd.R_base ho63) hb)
          have n2_ := Aside0.mk (Kd.R_elder' (by (with_reducible repeat (first | apply Kd.R_alloc | apply Kd.R_drewN | apply Kd.R_drew)); exact HO594.out) (Kd.R_base ho63) hb)
          have n3_ := Aside0.mk (Kd.R_lower (Kd.R_new' (Kd.R_new' (Kd.R_new' ho63 (Kd.R_lt (by (with_reducible repeat (first | apply Kd.R_alloc | apply Kd.R_drewN | apply Kd.R_drew)); exact HO_3.out))) (Kd.R_lt (by (with_reducible repeat (first | apply Kd.R_alloc | apply Kd.R_drewN | apply Kd.R_drew)); exact HO_6.out))) (Kd.R_lt (by (with_reducible repeat (first | apply Kd.R_alloc | apply Kd.R_drewN | apply Kd.R_drew)); exact HO594.out))) (below_size (by repeat (first | (with_reducible first | exact HB.out | apply below_alloc | apply pw_below_drewN | apply below_drew1 | refine below_set ?_ GE581.out | refine below_set ?_ GE586.out) | exact HB.out))))
          have n4_ := Aside0.mk (blk_below (g := gb581) (o := .cells #[.int .i64 t578, .int .i64 t579, .int .i64 t580] 28 (0, 0)) (by (with_reducible repeat (first | refine blk_drewN ?_ _ | refine blk_drew ?_ | refine blk_alloc ?_ _)); exact BK581.out) hb)
          have n5_ := Aside0.mk (blk_below (g := gb586) (o := .cells #[.int .i64 t582, .int .i64 t583, .int .i64 t584, .int .i64 t585] 45 (0, 0)) (by (with_reducible repeat (first | refine blk_drewN ?_ _ | refine blk_drew ?_ | refine blk_alloc ?_ _)); exact BK586.out) hb)
          have n6_ := Aside0.mk (below_step (by repeat (first | (with_reducible first | exact HB.out | apply below_alloc | apply pw_below_drewN | apply below_drew1 | refine below_set ?_ GE581.out | refine below_set ?_ GE586.out) | exact HB.out)) hb)
          clear HO_3
          clear HO_6
          clear HO594
          clear BK581
          clear BK586
          clear HB
          have HO_3 := n0_
          have HO_6 := n1_
          have HO594 := n2_
          have HO600 := n3_
          have BK581 := n4_
          have BK586 := n5_
          have HB := n6_
          clear n0_ n1_ n2_ n3_ n4_ n5_ n6_
          clear hb ho63
          refine hK.out _ _ ⟨(blk_cell BK581.out 0).trans rfl, (blk_cell BK581.out 1).trans rfl, (blk_cell BK581.out 2).trans rfl⟩ (fun hHeld => ?_)
          clear hK K
          refine norm_ (a' := ?_) ?_ ?_
          rotate_left
          ·show Act.put _ (some 74) _ = _
           simp only [Act.put, lz1, lz2, lz3, i64_w, i32_w]
           rfl
          refine one_ (i := 3) (N := some 73) #[true, true, true, true, true, false, false, false] rfl rfl (one_of HT_.out (by kernel_rfl)) (by decide) (fun K hK => ?_)
          refine Kd.R_append_rows_step Kd.string (w0 := w) w.heap.size (by rfl) (.tmp 71) (.tmp 72) 23 9 (.string ⟨#[]⟩) 16 rfl Try.underlying23 info9 rfl (by decide) (by omega) v593 y592 t575 _ _ _ (fun k_ => some k_ ≠ (.slice Ao12 t575.length co12 : Value).ownBlock ∧ some k_ ≠ (v588 : Value).ownBlock ∧ some k_ ≠ (v599 : Value).ownBlock) (fun _ => False) rfl rfl ?aO ?aR (fun _ _ h => h) (fun _ h => h.elim) ?aF ?aB ?aS ?aL ?_
          (case aR => repeat (first | exact (Kd.R_reads' HO_3.out).2.2 | (with_reducible refine Kd.C_alloc ?_ _) | (with_reducible refine Kd.C_drewN ?_ _) | (with_reducible refine Kd.C_drew ?_)))
          (case aB => exact (by repeat (first | (with_reducible first | exact HB.out | apply below_alloc | apply pw_below_drewN | apply below_drew1 | refine below_set ?_ GE581.out | refine below_set ?_ GE586.out) | exact HB.out)))
          (case aF => exact (fun k_ hk => ⟨Kd.fresh' (Kd.R_lt (by (with_reducible repeat (first | apply Kd.R_alloc | apply Kd.R_drewN | apply Kd.R_drew)); exact HO_3.out)) k_ hk, Kd.fresh' (Kd.R_lt (by (with_reducible repeat (first | apply Kd.R_alloc | apply Kd.R_drewN | apply Kd.R_drew)); exact HO_6.out)) k_ hk, Kd.fresh' (Kd.R_lt (by (with_reducible repeat (first | apply Kd.R_alloc | apply Kd.R_drewN | apply Kd.R_drew)); exact HO600.out)) k_ hk⟩))
          (case aO => exact (by (with_reducible repeat (first | apply Kd.R_alloc | apply Kd.R_drewN | apply Kd.R_drew)); exact Kd.R_mono HO594.out (fun _ hk => ⟨hk.1.1.2, ⟨hk.1.2, hk.2⟩⟩)))
          (case aS => exact (below_size (by repeat (first | (with_reducible first | exact HB.out | apply below_alloc | apply pw_below_drewN | apply below_drew1 | refine below_set ?_ GE581.out | refine below_set ?_ GE586.out) | exact HB.out))))
          (case aL => have := LMc55.out; omega)
          intro v596 w64 ho hb hg hat
          rw [← Ny595.out] at ho
          have n0_ := Aside0.mk (Kd.R_after (ok := (fun k_ => some k_ ≠ (v588 : Value).ownBlock ∧ some k_ ≠ (v599 : Value).ownBlock)) (by (with_reducible repeat (first | apply Kd.R_alloc | apply Kd.R_drewN | apply Kd.R_drew)); exact Kd.R_mono HO_3.out (fun _ hk => ⟨⟨hk.1.1, hk.2⟩, hk.1.2⟩)) hg hat)
          have n1_ := Aside0.mk (Kd.R_after (ok := (fun k_ => some k_ ≠ (.slice Ao12 t575.length co12 : Value).ownBlock ∧ some k_ ≠ (v599 : Value).ownBlock)) (by (with_reducible repeat (first | apply Kd.R_alloc | apply Kd.R_drewN | apply Kd.R_drew)); exact Kd.R_mono HO_6.out (fun _ hk => ⟨⟨hk.1.1, hk.2⟩, hk.1.2⟩)) hg hat)
          have n2_ := Aside0.mk (blk_grown (g := gb581) (o := .cells #[.int .i64 t578, .int .i64 t579, .int .i64 t580] 28 (0, 0)) (by (with_reducible repeat (first | refine blk_drewN ?_ _ | refine blk_drew ?_ | refine blk_alloc ?_ _)); exact BK581.out) hg (Kd.R_ne HO594.out BK581.out (by decide)))
          have n3_ := Aside0.mk (blk_grown (g := gb586) (o := .cells #[.int .i64 t582, .int .i64 t583, .int .i64 t584, .int .i64 t585] 45 (0, 0)) (by (with_reducible repeat (first | refine blk_drewN ?_ _ | refine blk_drew ?_ | refine blk_alloc ?_ _)); exact BK586.out) hg (Kd.R_ne HO594.out BK586.out (by decide)))
          have n4_ := Aside0.mk (Kd.R_after (ok := (fun k_ => some k_ ≠ (.slice Ao12 t575.length co12 : Value).ownBlock ∧ some k_ ≠ (v588 : Value).ownBlock)) (by (with_reducible repeat (first | apply Kd.R_alloc | apply Kd.R_drewN | apply Kd.R_drew)); exact Kd.R_mono HO600.out (fun _ hk => ⟨⟨hk.1.1.2, hk.1.2⟩, hk.2⟩)) hg hat)
          have n5_ := Aside0.mk (hb)
          have n6_ := Aside0.mk (ho)
          clear HO_3
          clear HO_6
          clear BK581
          clear BK586
          clear HO600
          clear HB
          clear HO594
          have HO_3 := n0_
          have HO_6 := n1_
          have BK581 := n2_
          have BK586 := n3_
          have HO600 := n4_
          have HB := n5_
          have HO597 := n6_
          clear n0_ n1_ n2_ n3_ n4_ n5_ n6_
          clear ho hb hg hat
          refine hK.out _ _ ⟨(blk_cell BK581.out 0).trans rfl, (blk_cell BK581.out 1).trans rfl, (blk_cell BK581.out 2).trans rfl⟩ (fun hHeld => ?_)
          clear hK K
          refine norm_ (a' := ?_) ?_ ?_
          rotate_left
          ·show Act.put _ (some 73) _ = _
           simp only [Act.put, lz1, lz2, lz3, i64_w, i32_w]
           rfl
          exact norm_ (by simp only [putAll, Act.put, List.setIfInBounds_toArray, List.set_cons_zero, List.set_cons_succ]) (hCont (v593, v596, v599) _ ⟨hHeld, (by (with_reducible repeat (first | apply Kd.R_alloc | apply Kd.R_drewN | apply Kd.R_drew)); exact Kd.R_mono HO597.out (fun _ hk => ⟨hk.2.2, ⟨hk.1, hk.2.1⟩⟩)), (by (with_reducible repeat (first | apply Kd.R_alloc | apply Kd.R_drewN | apply Kd.R_drew)); exact Kd.R_mono HO600.out (fun _ hk => ⟨hk.2, ⟨hk.1.1, hk.1.2⟩⟩)), (by (with_reducible repeat (first | apply Kd.R_alloc | apply Kd.R_drewN | apply Kd.R_drew)); exact Kd.R_mono HO_3.out (fun _ hk => ⟨hk.2, ⟨hk.1.2, hk.1.1⟩⟩)), (by (with_reducible repeat (first | apply Kd.R_alloc | apply Kd.R_drewN | apply Kd.R_drew)); exact Kd.R_mono HO_6.out (fun _ hk => ⟨hk.2, ⟨hk.1.2, hk.1.1⟩⟩)), (by (with_reducible repeat (first | refine blk_drewN ?_ _ | refine blk_drew ?_ | refine blk_alloc ?_ _)); exact BK581.out), (by (with_reducible repeat (first | refine blk_drewN ?_ _ | refine blk_drew ?_ | refine blk_alloc ?_ _)); exact BK586.out), (by repeat (first | (with_reducible first | exact HB.out | apply below_alloc | apply pw_below_drewN | apply below_drew1 | refine below_set ?_ GE581.out | refine below_set ?_ GE586.out) | exact HB.out))⟩)
        ·skip
         refine Kd.R_lit_step Kd.string _ 9 ?hg (N := 74) ?hd (xs := ([(⟨#[110, 101, 119]⟩ : ByteArray)] : List ByteArray)) (inner := [.string (⟨#[110, 101, 119]⟩ : ByteArray)]) (ok := fun _ => True) (okp := fun _ => True) ?hr ?hp (fun _ hk => hk) trivial (Below.refl _ _) (Nat.le_refl _) (by simp) ?_; (case hd => rfl); (case hg => rfl); (case hr => first | (go_simp; done) | (go_simp; rfl)); (case hp => exact (Reps.one (show Kd.M Kd.string _ _ _ (⟨#[110, 101, 119]⟩ : ByteArray) [.string (⟨#[110, 101, 119]⟩ : ByteArray)] from rfl) (Reps.none _ _)))
         intro v599 w60 ho61 hb hg_ hnew_
         clear hg_ hnew_
         (first | rw [← Ny598.out] at ho61 | (simp only [Int.reduceToNat] at ho61; rw [← Ny598.out] at ho61))
         have n0_ := Aside0.mk (Kd.R_elder' (by (with_reducible repeat (first | apply Kd.R_alloc | apply Kd.R_drewN | apply Kd.R_drew)); exact HO_3.out) (Kd.R_base ho61) hb)
         have n1_ := Aside0.mk (Kd.R_elder' (by (with_reducible repeat (first | apply Kd.R_alloc | apply Kd.R_drewN | apply Kd.R_drew)); exact HO_6.out) (Kd.R_base ho61) hb)
         have n2_ := Aside0.mk (Kd.R_lower (Kd.R_new' (Kd.R_new' ho61 (Kd.R_lt (by (with_reducible repeat (first | apply Kd.R_alloc | apply Kd.R_drewN | apply Kd.R_drew)); exact HO_3.out))) (Kd.R_lt (by (with_reducible repeat (first | apply Kd.R_alloc | apply Kd.R_drewN | apply Kd.R_drew)); exact HO_6.out))) (below_size (by repeat (first | (with_reducible first | exact HB.out | apply below_alloc | apply pw_below_drewN | apply below_drew1 | refine below_set ?_ GE581.out | refine below_set ?_ GE586.out) | exact HB.out))))
         have n3_ := Aside0.mk (blk_below (g := gb581) (o := .cells #[.int .i64 t578, .int .i64 t579, .int .i64 t580] 28 (0, 0)) (by (with_reducible repeat (first | refine blk_drewN ?_ _ | refine blk_drew ?_ | refine blk_alloc ?_ _)); exact BK581.out) hb)
         have n4_ := Aside0.mk (blk_below (g := gb586) (o := .cells #[.int .i64 t582, .int .i64 t583, .int .i64 t584, .int .i64 t585] 45 (0, 0)) (by (with_reducible repeat (first | refine blk_drewN ?_ _ | refine blk_drew ?_ | refine blk_alloc ?_ _)); exact BK586.out) hb)
         have n5_ := Aside0.mk (below_step (by repeat (first | (with_reducible first | exact HB.out | apply below_alloc | apply pw_below_drewN | apply below_drew1 | refine below_set ?_ GE581.out | refine below_set ?_ GE586.out) | exact HB.out)) hb)
         clear HO_3
         clear HO_6
         clear BK581
         clear BK586
         clear HB
         have HO_3 := n0_
         have HO_6 := n1_
         have HO600 := n2_
         have BK581 := n3_
         have BK586 := n4_
         have HB := n5_
         clear n0_ n1_ n2_ n3_ n4_ n5_
         clear hb ho61
         refine hK.out _ _ ⟨(blk_cell BK581.out 0).trans rfl, (blk_cell BK581.out 1).trans rfl, (blk_cell BK581.out 2).trans rfl⟩ (fun hHeld => ?_)
         clear hK K
         refine norm_ (a' := ?_) ?_ ?_
         rotate_left
         ·show Act.put _ (some 74) _ = _
          simp only [Act.put, lz1, lz2, lz3, i64_w, i32_w]
          rfl
         refine one_ (i := 1) (N := some 71) #[true, true, true, false, true, false, false, false] rfl rfl (one_of HT_.out (by kernel_rfl)) (by decide) (fun K hK => ?_)
         refine Kd.R_lit_step Kd.string _ 9 ?hg (N := 71) ?hd (xs := ([] : List ByteArray)) (inner := []) (ok := fun _ => True) (okp := fun _ => True) ?hr ?hp (fun _ hk => hk) trivial (Below.refl _ _) (Nat.le_refl _) (by simp) ?_; (case hd => rfl); (case hg => rfl); (case hr => first | (go_simp; done) | (go_simp; rfl)); (case hp => exact (Reps.none _ _))
         intro v593 w62 ho63 hb hg_ hnew_
         clear hg_ hnew_
         (first | rw [← Ny592.out] at ho63 | (simp only [Int.reduceToNat] at ho63; rw [← Ny592.out] at ho63))
         have n0_ := Aside0.mk (Kd.R_elder' (by (with_reducible repeat (first | apply Kd.R_alloc | apply Kd.R_drewN | apply Kd.R_drew)); exact HO_3.out) (Kd.R_base ho63) hb)
         have n1_ := Aside0.mk (Kd.R_elder' (by (with_reducible repeat (first | apply Kd.R_alloc | apply Kd.R_drewN | apply Kd.R_drew)); exact HO_6.out) (Kd.R_base ho63) hb)
         have n2_ := Aside0.mk (Kd.R_elder' (by (with_reducible repeat (first | apply Kd.R_alloc | apply Kd.R_drewN | apply Kd.R_drew)); exact HO600.out) (Kd.R_base ho63) hb)
         have n3_ := Aside0.mk (Kd.R_lower (Kd.R_new' (Kd.R_new' (Kd.R_new' ho63 (Kd.R_lt (by (with_reducible repeat (first | apply Kd.R_alloc | apply Kd.R_drewN | apply Kd.R_drew)); exact HO_3.out))) (Kd.R_lt (by (with_reducible repeat (first | apply Kd.R_alloc | apply Kd.R_drewN | apply Kd.R_drew)); exact HO_6.out))) (Kd.R_lt (by (with_reducible repeat (first | apply Kd.R_alloc | apply Kd.R_drewN | apply Kd.R_drew)); exact HO600.out))) (below_size (by repeat (first | (with_reducible first | exact HB.out | apply below_alloc | apply pw_below_drewN | apply below_drew1 | refine below_set ?_ GE581.out | refine below_set ?_ GE586.out) | exact HB.out))))
         have n4_ := Aside0.mk (blk_below (g := gb581) (o := .cells #[.int .i64 t578, .int .i64 t579, .int .i64 t580] 28 (0, 0)) (by (with_reducible repeat (first | refine blk_drewN ?_ _ | refine blk_drew ?_ | refine blk_alloc ?_ _)); exact BK581.out) hb)
         have n5_ := Aside0.mk (blk_below (g := gb586) (o := .cells #[.int .i64 t582, .int .i64 t583, .int .i64 t584, .int .i64 t585] 45 (0, 0)) (by (with_reducible repeat (first | refine blk_drewN ?_ _ | refine blk_drew ?_ | refine blk_alloc ?_ _)); exact BK586.out) hb)
         have n6_ := Aside0.mk (below_step (by repeat (first | (with_reducible first | exact HB.out | apply below_alloc | apply pw_below_drewN | apply below_drew1 | refine below_set ?_ GE581.out | refine below_set ?_ GE586.out) | exact HB.out)) hb)
         clear HO_3
         clear HO_6
         clear HO600
         clear BK581
         clear BK586
         clear HB
         have HO_3 := n0_
         have HO_6 := n1_
         have HO600 := n2_
         have HO594 := n3_
         have BK581 := n4_
         have BK586 := n5_
         have HB := n6_
         clear n0_ n1_ n2_ n3_ n4_ n5_ n6_
         clear hb ho63
         refine hK.out _ _ ⟨(blk_cell BK581.out 0).trans rfl, (blk_cell BK581.out 1).trans rfl, (blk_cell BK581.out 2).trans rfl⟩ (fun hHeld => ?_)
         clear hK K
         refine norm_ (a' := ?_) ?_ ?_
         rotate_left
         ·show Act.put _ (some 71) _ = _
          simp only [Act.put, lz1, lz2, lz3, i64_w, i32_w]
          rfl
         refine one_ (i := 3) (N := some 73) #[true, true, true, true, true, false, false, false] rfl rfl (one_of HT_.out (by kernel_rfl)) (by decide) (fun K hK => ?_)
         refine Kd.R_append_rows_step Kd.string (w0 := w) w.heap.size (by rfl) (.tmp 71) (.tmp 72) 23 9 (.string ⟨#[]⟩) 16 rfl Try.underlying23 info9 rfl (by decide) (by omega) v593 y592 t575 _ _ _ (fun k_ => some k_ ≠ (.slice Ao12 t575.length co12 : Value).ownBlock ∧ some k_ ≠ (v588 : Value).ownBlock ∧ some k_ ≠ (v599 : Value).ownBlock) (fun _ => False) rfl rfl ?aO ?aR (fun _ _ h => h) (fun _ h => h.elim) ?aF ?aB ?aS ?aL ?_
         (case aR => repeat (first | exact (Kd.R_reads' HO_3.out).2.2 | (with_reducible refine Kd.C_alloc ?_ _) | (with_reducible refine Kd.C_drewN ?_ _) | (with_reducible refine Kd.C_drew ?_)))
         (case aB => exact (by repeat (first | (with_reducible first | exact HB.out | apply below_alloc | apply pw_below_drewN | apply below_drew1 | refine below_set ?_ GE581.out | refine below_set ?_ GE586.out) | exact HB.out)))
         (case aF => exact (fun k_ hk => ⟨Kd.fresh' (Kd.R_lt (by (with_reducible repeat (first | apply Kd.R_alloc | apply Kd.R_drewN | apply Kd.R_drew)); exact HO_3.out)) k_ hk, Kd.fresh' (Kd.R_lt (by (with_reducible repeat (first | apply Kd.R_alloc | apply Kd.R_drewN | apply Kd.R_drew)); exact HO_6.out)) k_ hk, Kd.fresh' (Kd.R_lt (by (with_reducible repeat (first | apply Kd.R_alloc | apply Kd.R_drewN | apply Kd.R_drew)); exact HO600.out)) k_ hk⟩))
         (case aO => exact (by (with_reducible repeat (first | apply Kd.R_alloc | apply Kd.R_drewN | apply Kd.R_drew)); exact Kd.R_mono HO594.out (fun _ hk => ⟨hk.1.1.2, ⟨hk.1.2, hk.2⟩⟩)))
         (case aS => exact (below_size (by repeat (first | (with_reducible first | exact HB.out | apply below_alloc | apply pw_below_drewN | apply below_drew1 | refine below_set ?_ GE581.out | refine below_set ?_ GE586.out) | exact HB.out))))
         (case aL => have := LMc55.out; omega)
         intro v596 w64 ho hb hg hat
         rw [← Ny595.out] at ho
         have n0_ := Aside0.mk (Kd.R_after (ok := (fun k_ => some k_ ≠ (v588 : Value).ownBlock ∧ some k_ ≠ (v599 : Value).ownBlock)) (by (with_reducible repeat (first | apply Kd.R_alloc | apply Kd.R_drewN | apply Kd.R_drew)); exact HO_3.out) hg hat)
         have n1_ := Aside0.mk (Kd.R_after (ok := (fun k_ => some k_ ≠ (.slice Ao12 t575.length co12 : Value).ownBlock ∧ some k_ ≠ (v599 : Value).ownBlock)) (by (with_reducible repeat (first | apply Kd.R_alloc | apply Kd.R_drewN | apply Kd.R_drew)); exact HO_6.out) hg hat)
         have n2_ := Aside0.mk (blk_grown (g := gb581) (o := .cells #[.int .i64 t578, .int .i64 t579, .int .i64 t580] 28 (0, 0)) (by (with_reducible repeat (first | refine blk_drewN ?_ _ | refine blk_drew ?_ | refine blk_alloc ?_ _)); exact BK581.out) hg (Kd.R_ne HO594.out BK581.out (by decide)))
         have n3_ := Aside0.mk (blk_grown (g := gb586) (o := .cells #[.int .i64 t582, .int .i64 t583, .int .i64 t584, .int .i64 t585] 45 (0, 0)) (by (with_reducible repeat (first | refine blk_drewN ?_ _ | refine blk_drew ?_ | refine blk_alloc ?_ _)); exact BK586.out) hg (Kd.R_ne HO594.out BK586.out (by decide)))
         have n4_ := Aside0.mk (Kd.R_after (ok := (fun k_ => some k_ ≠ (.slice Ao12 t575.length co12 : Value).ownBlock ∧ some k_ ≠ (v588 : Value).ownBlock)) (by (with_reducible repeat (first | apply Kd.R_alloc | apply Kd.R_drewN | apply Kd.R_drew)); exact Kd.R_mono HO600.out (fun _ hk => ⟨⟨hk.1.1.2, hk.1.2⟩, hk.2⟩)) hg hat)
         have n5_ := Aside0.mk (hb)
         have n6_ := Aside0.mk (ho)
         clear HO_3
         clear HO_6
         clear BK581
         clear BK586
         clear HO600
         clear HB
         clear HO594
         have HO_3 := n0_
         have HO_6 := n1_
         have BK581 := n2_
         have BK586 := n3_
         have HO600 := n4_
         have HB := n5_
         have HO597 := n6_
         clear n0_ n1_ n2_ n3_ n4_ n5_ n6_
         clear ho hb hg hat
         refine hK.out _ _ ⟨(blk_cell BK581.out 0).trans rfl, (blk_cell BK581.out 1).trans rfl, (blk_cell BK581.out 2).trans rfl⟩ (fun hHeld => ?_)
         clear hK K
         refine norm_ (a' := ?_) ?_ ?_
         rotate_left
         ·show Act.put _ (some 73) _ = _
          simp only [Act.put, lz1, lz2, lz3, i64_w, i32_w]
          rfl
         exact norm_ (by simp only [putAll, Act.put, List.setIfInBounds_toArray, List.set_cons_zero, List.set_cons_succ]) (hCont (v593, v596, v599) _ ⟨hHeld, (by (with_reducible repeat (first | apply Kd.R_alloc | apply Kd.R_drewN | apply Kd.R_drew)); exact Kd.R_mono HO597.out (fun _ hk => ⟨hk.2.2, ⟨hk.1, hk.2.1⟩⟩)), (by (with_reducible repeat (first | apply Kd.R_alloc | apply Kd.R_drewN | apply Kd.R_drew)); exact Kd.R_mono HO600.out (fun _ hk => ⟨hk.2, ⟨hk.1.1, hk.1.2⟩⟩)), (by (with_reducible repeat (first | apply Kd.R_alloc | apply Kd.R_drewN | apply Kd.R_drew)); exact Kd.R_mono HO_3.out (fun _ hk => ⟨hk.2, ⟨hk.1.2, hk.1.1⟩⟩)), (by (with_reducible repeat (first | apply Kd.R_alloc | apply Kd.R_drewN | apply Kd.R_drew)); exact Kd.R_mono HO_6.out (fun _ hk => ⟨hk.2, ⟨hk.1.2, hk.1.1⟩⟩)), (by (with_reducible repeat (first | refine blk_drewN ?_ _ | refine blk_drew ?_ | refine blk_alloc ?_ _)); exact BK581.out), (by (with_reducible repeat (first | refine blk_drewN ?_ _ | refine blk_drew ?_ | refine blk_alloc ?_ _)); exact BK586.out), (by repeat (first | (with_reducible first | exact HB.out | apply below_alloc | apply pw_below_drewN | apply below_drew1 | refine below_set ?_ GE581.out | refine below_set ?_ GE586.out) | exact HB.out))⟩)
       rintro ⟨v593, v596, v599⟩ w65 ⟨hS_, h0_, h1_, h2_, h3_, h4_, h5_, h6_⟩
       have n0_ : Aside0 (Kd.R Kd.string 9 w65 w.heap.size (fun k_ => some k_ ≠ (v599 : Value).ownBlock ∧ some k_ ≠ (.slice Ao12 t575.length co12 : Value).ownBlock ∧ some k_ ≠ (v588 : Value).ownBlock) v596 y595) := ⟨h0_⟩
       have n1_ : Aside0 (Kd.R Kd.string 9 w65 w.heap.size (fun k_ => some k_ ≠ (v596 : Value).ownBlock ∧ some k_ ≠ (.slice Ao12 t575.length co12 : Value).ownBlock ∧ some k_ ≠ (v588 : Value).ownBlock) v599 y598) := ⟨h1_⟩
       have n2_ : Aside0 (Kd.R Kd.string 9 w65 w.heap.size (fun k_ => some k_ ≠ (v596 : Value).ownBlock ∧ some k_ ≠ (v599 : Value).ownBlock ∧ some k_ ≠ (v588 : Value).ownBlock) (.slice Ao12 t575.length co12) t575) := ⟨h2_⟩
       have n3_ : Aside0 (Kd.R Kd.string 9 w65 w.heap.size (fun k_ => some k_ ≠ (v596 : Value).ownBlock ∧ some k_ ≠ (v599 : Value).ownBlock ∧ some k_ ≠ (.slice Ao12 t575.length co12 : Value).ownBlock) v588 t587) := ⟨h3_⟩
       have n4_ : Aside0 (w65.heap[gb581]? = some (.cells #[.int .i64 t578, .int .i64 t579, .int .i64 t580] 28 (0, 0))) := ⟨h4_⟩
       have n5_ : Aside0 (w65.heap[gb586]? = some (.cells #[.int .i64 t582, .int .i64 t583, .int .i64 t584, .int .i64 t585] 45 (0, 0))) := ⟨h5_⟩
       have n6_ : Aside0 (Below w.heap.size w w65) := ⟨h6_⟩
       clear HO_3
       clear HO_6
       clear BK581
       clear BK586
       clear HB
       clear h0_ h1_ h2_ h3_ h4_ h5_ h6_
       have HO597 := n0_
       have HO600 := n1_
       have HO_3 := n2_
       have HO_6 := n3_
       have BK581 := n4_
       have BK586 := n5_
       have HB := n6_
       clear n0_ n1_ n2_ n3_ n4_ n5_ n6_
       have hHeld : w65.cell? ⟨gb581, 0, none⟩ = some (.int .i64 t578) ∧ w65.cell? ⟨gb581, 1, none⟩ = some (.int .i64 t579) ∧ w65.cell? ⟨gb581, 2, none⟩ = some (.int .i64 t580) := hS_
       obtain ⟨Ao67, co67, eo67⟩ := Kd.R_slice HO600.out
       (first | subst eo67 | (injection eo67 with f1_ f2_ f3_; have f4_ := f1_.symm; have f5_ := f3_.symm; clear f1_ f2_ f3_; subst f4_; subst f5_))
       refine norm_ (a' := ?_) ?_ ?_
       rotate_left
       ·simp only [putAll, Act.put, List.setIfInBounds_toArray, List.set_cons_zero, List.set_cons_succ]
        rfl
       refine one_ (i := 5) (N := some 75) #[true, true, true, true, true, true, false, false] rfl rfl (one_of HT_.out (by kernel_rfl)) (by decide) (fun K hK => ?_)
       refine Kd.R_append_rows_step Kd.string (w0 := w) w.heap.size (by rfl) (.tmp 73) (.tmp 74) 23 9 (.string ⟨#[]⟩) 16 rfl Try.underlying23 info9 rfl (by decide) (by omega) v596 y595 y598 _ _ _ (fun k_ => some k_ ≠ (.slice Ao12 t575.length co12 : Value).ownBlock ∧ some k_ ≠ (v588 : Value).ownBlock ∧ some k_ ≠ (.slice Ao67 y598.length co67 : Value).ownBlock) (fun _ => False) rfl rfl ?aO ?aR (fun _ _ h => h) (fun _ h => h.elim) ?aF ?aB ?aS ?aL ?_
       (case aR => repeat (first | exact (Kd.R_reads' HO600.out).2.2 | (with_reducible refine Kd.C_alloc ?_ _) | (with_reducible refine Kd.C_drewN ?_ _) | (with_reducible refine Kd.C_drew ?_)))
       (case aB => exact (by repeat (first | (with_reducible first | exact HB.out | apply below_alloc | apply pw_below_drewN | apply below_drew1 | refine below_set ?_ GE581.out | refine below_set ?_ GE586.out) | exact HB.out)))
       (case aF => exact (fun k_ hk => ⟨Kd.fresh' (Kd.R_lt (by (with_reducible repeat (first | apply Kd.R_alloc | apply Kd.R_drewN | apply Kd.R_drew)); exact HO_3.out)) k_ hk, Kd.fresh' (Kd.R_lt (by (with_reducible repeat (first | apply Kd.R_alloc | apply Kd.R_drewN | apply Kd.R_drew)); exact HO_6.out)) k_ hk, Kd.fresh' (Kd.R_lt (by (with_reducible repeat (first | apply Kd.R_alloc | apply Kd.R_drewN | apply Kd.R_drew)); exact HO600.out)) k_ hk⟩))
       (case aO => exact (by (with_reducible repeat (first | apply Kd.R_alloc | apply Kd.R_drewN | apply Kd.R_drew)); exact Kd.R_mono HO597.out (fun _ hk => ⟨hk.2.1, ⟨hk.2.2, hk.1⟩⟩)))
       (case aS => exact (below_size (by repeat (first | (with_reducible first | exact HB.out | apply below_alloc | apply pw_below_drewN | apply below_drew1 | refine below_set ?_ GE581.out | refine below_set ?_ GE586.out) | exact HB.out))))
       (case aL => have := LMc56.out; omega)
       intro v602 w66 ho hb hg hat
       rw [← Ny601.out] at ho
       have n0_ := Aside0.mk (Kd.R_after (ok := (fun k_ => some k_ ≠ (v588 : Value).ownBlock ∧ some k_ ≠ (.slice Ao67 y598.length co67 : Value).ownBlock)) (by (with_reducible repeat (first | apply Kd.R_alloc | apply Kd.R_drewN | apply Kd.R_drew)); exact Kd.R_mono HO_3.out (fun _ hk => ⟨⟨hk.2.2, hk.2.1⟩, hk.1⟩)) hg hat)
       have n1_ := Aside0.mk (Kd.R_after (ok := (fun k_ => some k_ ≠ (.slice Ao12 t575.length co12 : Value).ownBlock ∧ some k_ ≠ (.slice Ao67 y598.length co67 : Value).ownBlock)) (by (with_reducible repeat (first | apply Kd.R_alloc | apply Kd.R_drewN | apply Kd.R_drew)); exact Kd.R_mono HO_6.out (fun _ hk => ⟨⟨hk.2.2, hk.2.1⟩, hk.1⟩)) hg hat)
       have n2_ := Aside0.mk (blk_grown (g := gb581) (o := .cells #[.int .i64 t578, .int .i64 t579, .int .i64 t580] 28 (0, 0)) (by (with_reducible repeat (first | refine blk_drewN ?_ _ | refine blk_drew ?_ | refine blk_alloc ?_ _)); exact BK581.out) hg (Kd.R_ne HO597.out BK581.out (by decide)))
       have n3_ := Aside0.mk (blk_grown (g := gb586) (o := .cells #[.int .i64 t582, .int .i64 t583, .int .i64 t584, .int .i64 t585] 45 (0, 0)) (by (with_reducible repeat (first | refine blk_drewN ?_ _ | refine blk_drew ?_ | refine blk_alloc ?_ _)); exact BK586.out) hg (Kd.R_ne HO597.out BK586.out (by decide)))
       have n4_ := Aside0.mk (Kd.R_after (ok := (fun k_ => some k_ ≠ (.slice Ao12 t575.length co12 : Value).ownBlock ∧ some k_ ≠ (v588 : Value).ownBlock)) (by (with_reducible repeat (first | apply Kd.R_alloc | apply Kd.R_drewN | apply Kd.R_drew)); exact Kd.R_mono HO600.out (fun _ hk => ⟨⟨hk.2.1, hk.2.2⟩, hk.1⟩)) hg hat)
       have n5_ := Aside0.mk (hb)
       have n6_ := Aside0.mk (ho)
       clear HO_3
       clear HO_6
       clear BK581
       clear BK586
       clear HO600
       clear HB
       clear HO597
       have HO_3 := n0_
       have HO_6 := n1_
       have BK581 := n2_
       have BK586 := n3_
       have HO600 := n4_
       have HB := n5_
       have HO603 := n6_
       clear n0_ n1_ n2_ n3_ n4_ n5_ n6_
       clear ho hb hg hat
       obtain ⟨Ao68, co68, eo68⟩ := Kd.R_slice HO603.out
       (first | subst eo68 | (injection eo68 with f1_ f2_ f3_; have f4_ := f1_.symm; have f5_ := f3_.symm; clear f1_ f2_ f3_; subst f4_; subst f5_))
       refine hK.out _ _ ⟨(blk_cell BK581.out 0).trans rfl, (blk_cell BK581.out 1).trans rfl, (blk_cell BK581.out 2).trans rfl⟩ (fun hHeld => ?_)
       clear hK K
       refine norm_ (a' := ?_) ?_ ?_
       rotate_left
       ·show Act.put _ (some 75) _ = _
        simp only [Act.put, lz1, lz2, lz3, i64_w, i32_w]
        rfl
       refine one_ (i := 6) (N := some 76) #[true, true, true, true, true, true, true, false] rfl rfl (one_of HT_.out (by kernel_rfl)) (by decide) (fun K hK => ?_)
       refine goes_ Try.func34 (by kernel_rfl) rfl #[.agg #[.int .i64 t578, .int .i64 t579, .int .i64 t580], .slice Ao68 y601.length co68] (by rfl) rfl rfl (by (try simp only [List.map_toArray, List.map_cons, List.map_nil]); first | done | rfl | (simp only [List.length_drop, List.length_take]; rfl)) ?_
       with_reducible refine (impl_HitsOf.calls kj6 t578 t579 t580 _ _ y601 t604 _ ?side1 ?side2 A57.out).mono ?_
       (case side1 => repeat (first | exact (Kd.R_reads' HO603.out).2.2 | (with_reducible refine Kd.C_alloc ?_ _) | (with_reducible refine Kd.C_drewN ?_ _) | (with_reducible refine Kd.C_drew ?_)))
       (case side2 => exact (Kd.R_reads' HO603.out).2.1)
       rintro e w69 ⟨v605, rfl, ho0, hb⟩
       refine ⟨_, rfl, ?_⟩
       have n0_ := Aside0.mk (Kd.R_below (by (with_reducible repeat (first | apply Kd.R_alloc | apply Kd.R_drewN | apply Kd.R_drew)); exact HO_3.out) hb)
       have n1_ := Aside0.mk (Kd.R_below (by (with_reducible repeat (first | apply Kd.R_alloc | apply Kd.R_drewN | apply Kd.R_drew)); exact HO_6.out) hb)
       have n2_ := Aside0.mk (Kd.R_below (by (with_reducible repeat (first | apply Kd.R_alloc | apply Kd.R_drewN | apply Kd.R_drew)); exact HO600.out) hb)
       have n3_ := Aside0.mk (Kd.R_below (by (with_reducible repeat (first | apply Kd.R_alloc | apply Kd.R_drewN | apply Kd.R_drew)); exact HO603.out) hb)
       have n4_ := Aside0.mk (Kd.R_lower ho0 (below_size (by repeat (first | (with_reducible first | exact HB.out | apply below_alloc | apply pw_below_drewN | apply below_drew1 | refine below_set ?_ GE581.out | refine below_set ?_ GE586.out) | exact HB.out))))
       have n5_ := Aside0.mk (blk_below (g := gb581) (o := .cells #[.int .i64 t578, .int .i64 t579, .int .i64 t580] 28 (0, 0)) (by (with_reducible repeat (first | refine blk_drewN ?_ _ | refine blk_drew ?_ | refine blk_alloc ?_ _)); exact BK581.out) hb)
       have n6_ := Aside0.mk (blk_below (g := gb586) (o := .cells #[.int .i64 t582, .int .i64 t583, .int .i64 t584, .int .i64 t585] 45 (0, 0)) (by (with_reducible repeat (first | refine blk_drewN ?_ _ | refine blk_drew ?_ | refine blk_alloc ?_ _)); exact BK586.out) hb)
       have n7_ := Aside0.mk (below_step (by repeat (first | (with_reducible first | exact HB.out | apply below_alloc | apply pw_below_drewN | apply below_drew1 | refine below_set ?_ GE581.out | refine below_set ?_ GE586.out) | exact HB.out)) hb)
       clear HO_3
       clear HO_6
       clear HO600
       clear HO603
       clear BK581
       clear BK586
       clear HB
       have HO_3 := n0_
       have HO_6 := n1_
       have HO600 := n2_
       have HO603 := n3_
       have HO606 := n4_
       have BK581 := n5_
       have BK586 := n6_
       have HB := n7_
       clear n0_ n1_ n2_ n3_ n4_ n5_ n6_ n7_
       (try clear hb)
       (try clear hb2)
       (try clear hk)
       (try clear hi)
       (try clear ho0)
       refine hK.out _ _ ⟨(blk_cell BK581.out 0).trans rfl, (blk_cell BK581.out 1).trans rfl, (blk_cell BK581.out 2).trans rfl⟩ (fun hHeld => ?_)
       clear hK K
       refine norm_ (a' := ?_) ?_ ?_
       rotate_left
       ·show Act.put _ (some 76) _ = _
        simp only [Act.put, lz1, lz2, lz3, i64_w, i32_w]
        rfl
       refine pure_ (i := 7) (N := some 7) (v := ?_) (a' := ?_) #[true, true, true, true, true, true, true, true] rfl rfl (any_of HT_.out (by kernel_rfl)) (fun _ _ _ h => h) (Or.inl ⟨by rfl, ?_⟩) ?_ ?_
       rotate_left
       ·intro w'
        go_simp
        with_reducible rfl
       rotate_left
       ·simp only [Act.put, lz1, lz2, lz3, i64_w, i32_w]
        rfl
       refine done_ (done_of HT_.out (by kernel_rfl)) ?_
       go_upto_region 10 with (fail)
       go_cut [89] (fun v89 wc => ∃ (kq : Nat) (x89_57 : Bool), v89 = .bool x89_57 ∧ Aside0 (laws_FnCount.j1 kq t575 t587 x89_57 t578 t579 t580 t582 t583 t584 t585 = some true) ∧ Aside0 (kq ≤ kj6) ∧ Aside0 (Kd.R Kd.string 9 wc w.heap.size (fun k_ => some k_ ≠ (v588 : Value).ownBlock) (.slice Ao12 t575.length co12) t575) ∧ Aside0 (Kd.R Kd.string 9 wc w.heap.size (fun k_ => some k_ ≠ ((.slice Ao12 t575.length co12) : Value).ownBlock) v588 t587) ∧ Aside0 (wc.heap[gb581]? = some (.cells #[.int .i64 t578, .int .i64 t579, .int .i64 t580] 28 (0, 0))) ∧ Aside0 (wc.heap[gb586]? = some (.cells #[.int .i64 t582, .int .i64 t583, .int .i64 t584, .int .i64 t585] 45 (0, 0))) ∧ Aside0 (Below w.heap.size w wc))
       case first =>
        have H := HC58.out
        clear HC58
        by_cases c70 : (t604.length : Int) = (wrap64 ((t575.length : Int) + 1))
        ·rw [if_pos c70] at H
         have c70b0 : ((t604.length : Int) == (wrap64 ((t575.length : Int) + 1))) = true := beq_iff_eq.mpr c70
         have c70b1 : ((t604.length : Int) != (wrap64 ((t575.length : Int) + 1))) = false := bne_eq_false_iff_eq.mpr c70
         clear c70
         (first | rw [c70b0] | (simp only [i64_w, i32_w]; rw [c70b0]) | skip)
         by_cases c71 : 0 ≤ (t575.length : Int)
         ·rw [if_pos c71] at H
          have c71b0 : decide (0 ≤ (t575.length : Int)) = true := decide_eq_true c71
          have c71b1 : decide (0 ≤ t575.length) = true := decide_eq_true (by omega)
          clear c71
          by_cases c72 : (t575.length : Int) < (t604.length : Int)
          ·rw [if_pos c72] at H
           have c72b0 : decide ((t575.length : Int) < (t604.length : Int)) = true := decide_eq_true c72
           have c72b1 : decide (t575.length < t604.length) = true := decide_eq_true (Int.ofNat_lt.mp c72)
           clear c72
           have H' := Aside0.mk H
           clear H
           obtain ⟨Ao73, co73, eo73⟩ := Kd.R_slice HO606.out
           subst eo73
           have p607 : 0 ≤ ((t575.length : Int) : Int) := of_decide_eq_true (by first | (with_reducible assumption) | assumption)
           have q607 : (t575.length : Int) < (t604.length : Int) := of_decide_eq_true (by first | (with_reducible assumption) | assumption)
           obtain ⟨ad607, e607, hx607_0⟩ := Kd.at_bool (Kd.R_reads' HO606.out).2.2 (t575.length : Int) p607 q607
           cases e607
           (try simp only [Go.IntWalk.toNatUp] at hx607_0)
           replace p607 := eq_true p607
           replace q607 := eq_true q607
           go_wp2
           go_meet
           case rel => exact ⟨_, (rdOf false t604 (t575.length : Int)), (by first | rfl | (simp; done) | (simp [*]; done)), H', ⟨by have := HJ6.out; first | omega | exact Nat.le_refl _⟩, ⟨by (with_reducible repeat (first | apply Kd.R_alloc | apply Kd.R_drewN | apply Kd.R_drew)); exact Kd.R_mono HO_3.out (fun _ hk => hk.1.1)⟩, ⟨by (with_reducible repeat (first | apply Kd.R_alloc | apply Kd.R_drewN | apply Kd.R_drew)); exact Kd.R_mono HO_6.out (fun _ hk => hk.1.1)⟩, ⟨by (with_reducible repeat (first | refine blk_drewN ?_ _ | refine blk_drew ?_ | refine blk_alloc ?_ _)); exact BK581.out⟩, ⟨by (with_reducible repeat (first | refine blk_drewN ?_ _ | refine blk_drew ?_ | refine blk_alloc ?_ _)); exact BK586.out⟩, ⟨by repeat (first | (with_reducible first | exact HB.out | apply below_alloc | apply pw_below_drewN | apply below_drew1 | refine below_set ?_ GE581.out | refine below_set ?_ GE586.out) | exact HB.out)⟩⟩
          ·rw [if_neg c72] at H
           exact absurd H (by simp)
         ·rw [if_neg c71] at H
          exact absurd H (by simp)
        ·rw [if_neg c70] at H
         have c70b0 : ((t604.length : Int) == (wrap64 ((t575.length : Int) + 1))) = false := beq_eq_false_iff_ne.mpr c70
         have c70b1 : ((t604.length : Int) != (wrap64 ((t575.length : Int) + 1))) = true := bne_iff_ne.mpr c70
         (first | rw [c70b0] | (simp only [i64_w, i32_w]; rw [c70b0]) | skip)
         have H' := Aside0.mk H
         clear H
         obtain ⟨Ao74, co74, eo74⟩ := Kd.R_slice HO606.out
         subst eo74
         go_wp2
         go_meet
         case rel => exact ⟨_, (true), (by first | rfl | (simp; done) | (simp [*]; done)), H', ⟨by have := HJ6.out; first | omega | exact Nat.le_refl _⟩, ⟨by (with_reducible repeat (first | apply Kd.R_alloc | apply Kd.R_drewN | apply Kd.R_drew)); exact Kd.R_mono HO_3.out (fun _ hk => hk.1.1)⟩, ⟨by (with_reducible repeat (first | apply Kd.R_alloc | apply Kd.R_drewN | apply Kd.R_drew)); exact Kd.R_mono HO_6.out (fun _ hk => hk.1.1)⟩, ⟨by (with_reducible repeat (first | refine blk_drewN ?_ _ | refine blk_drew ?_ | refine blk_alloc ?_ _)); exact BK581.out⟩, ⟨by (with_reducible repeat (first | refine blk_drewN ?_ _ | refine blk_drew ?_ | refine blk_alloc ?_ _)); exact BK586.out⟩, ⟨by repeat (first | (with_reducible first | exact HB.out | apply below_alloc | apply pw_below_drewN | apply below_drew1 | refine below_set ?_ GE581.out | refine below_set ?_ GE586.out) | exact HB.out)⟩⟩
       case rest =>
        clear HC58
        try clear p2
        try clear c3
        try clear c5
        try clear p6
        try clear q6
        try clear hx6
        try clear c7
        try clear c34
        try clear c54
        try clear c55
        try clear c56
        try clear p60
        try clear q60
        try clear hx60
        try clear p64
        try clear c70
        try clear c70b0
        try clear c70b1
        try clear c71
        try clear c71b0
        try clear c71b1
        try clear c72
        try clear c72b0
        try clear c72b1
        try clear hfz17_0
        try clear hfz17_1
        try clear hfz17_2
        try clear hfz26_0
        try clear hfz26_1
        try clear hfz26_2
        try clear hfz28_0
        try clear hfz28_1
        try clear hfz28_2
        try clear hfz28_3
        try clear hfz30_0
        try clear hfz30_1
        try clear hfz30_2
        try clear hfz33_0
        try clear hfz33_1
        try clear hfz33_2
        try clear hfz35_0
        try clear hfz35_1
        try clear hfz35_2
        try clear hfz35_3
        try clear hfz37_0
        try clear hfz37_1
        try clear hfz37_2
        try clear hfz39_0
        try clear hfz39_1
        try clear hfz39_2
        try clear hfz41_0
        try clear hfz41_1
        try clear hfz41_2
        try clear hfz41_3
        try clear hfz44_0
        try clear hfz44_1
        try clear hfz44_2
        try clear hfz46_0
        try clear hfz46_1
        try clear hfz46_2
        try clear hfz46_3
        try clear hfz48_0
        try clear hfz48_1
        try clear hfz48_2
        try clear hfz50_0
        try clear hfz50_1
        try clear hfz50_2
        try clear hfz50_3
        try clear hfz52_0
        try clear hfz52_1
        try clear hfz52_2
        try clear hx607_0
        try clear p607
        try clear q607
        obtain ⟨kq, x89_57, rfl, HA, HJ57, HO_3, HO_6, BK581, BK586, HB⟩ := hcut
        cases kq with
        | zero => exact absurd HA.out (by simp [laws_FnCount.j1])
        | succ kj57 =>
         have H := HA.out
         clear HA
         simp only [laws_FnCount.j1] at H
         by_cases c75 : x89_57 = true
         ·subst c75
          have H1 : (some false) = some true := by rw [if_pos rfl] at H; exact H
          exact absurd H1 (by simp)
         ·replace c75 := Bool.eq_false_iff.mpr c75
          subst c75
          have H1 : (laws_FnCount.l0 kj57 t575 t587 (t587.length : Int) 0 t578 t579 t580 t582 t583 t584 t585) = some true := by rw [if_neg (show ¬ (false = true) by decide)] at H; exact H
          clear H
          have H := H1
          clear H1
          have H' := Aside0.mk H
          clear H
          obtain ⟨Ao76, co76, eo76⟩ := Kd.R_slice HO_6.out
          subst eo76
          go_wp2
          go_loopg [92] kj57 (fun kq v92 w' => ∃ (x92_3 : Int), v92 = .int .i64 x92_3 ∧ Aside0 (laws_FnCount.l0 kq t575 t587 (t587.length : Int) x92_3 t578 t579 t580 t582 t583 t584 t585 = some true) ∧ Aside0 (kq ≤ kj57) ∧ Aside0 (Kd.R Kd.string 9 w' w.heap.size (fun k_ => some k_ ≠ ((.slice Ao76 t587.length co76) : Value).ownBlock) (.slice Ao12 t575.length co12) t575) ∧ Aside0 (Kd.R Kd.string 9 w' w.heap.size (fun k_ => some k_ ≠ ((.slice Ao12 t575.length co12) : Value).ownBlock) (.slice Ao76 t587.length co76) t587) ∧ Aside0 (w'.heap[gb581]? = some (.cells #[.int .i64 t578, .int .i64 t579, .int .i64 t580] 28 (0, 0))) ∧ Aside0 (w'.heap[gb586]? = some (.cells #[.int .i64 t582, .int .i64 t583, .int .i64 t584, .int .i64 t585] 45 (0, 0))) ∧ Aside0 (Below w.heap.size w w'))
          case atStart => exact ⟨(0), (by first | rfl | (simp; done) | (simp [*]; done)), H', ⟨Nat.le_refl _⟩, ⟨by (with_reducible repeat (first | apply Kd.R_alloc | apply Kd.R_drewN | apply Kd.R_drew)); exact HO_3.out⟩, ⟨by (with_reducible repeat (first | apply Kd.R_alloc | apply Kd.R_drewN | apply Kd.R_drew)); exact HO_6.out⟩, ⟨by (with_reducible repeat (first | refine blk_drewN ?_ _ | refine blk_drew ?_ | refine blk_alloc ?_ _)); exact BK581.out⟩, ⟨by (with_reducible repeat (first | refine blk_drewN ?_ _ | refine blk_drew ?_ | refine blk_alloc ?_ _)); exact BK586.out⟩, ⟨by repeat (first | (with_reducible first | exact HB.out | apply below_alloc | apply pw_below_drewN | apply below_drew1 | refine below_set ?_ GE581.out | refine below_set ?_ GE586.out) | exact HB.out)⟩⟩
          case round =>
           clear H'
           try clear p2
           try clear c3
           try clear c5
           try clear p6
           try clear q6
           try clear hx6
           try clear c7
           try clear c34
           try clear c54
           try clear c55
           try clear c56
           try clear p60
           try clear q60
           try clear hx60
           try clear p64
           try clear c70
           try clear c70b0
           try clear c70b1
           try clear c71
           try clear c71b0
           try clear c71b1
           try clear c72
           try clear c72b0
           try clear c72b1
           try clear c75
           try clear hfz17_0
           try clear hfz17_1
           try clear hfz17_2
           try clear hfz26_0
           try clear hfz26_1
           try clear hfz26_2
           try clear hfz28_0
           try clear hfz28_1
           try clear hfz28_2
           try clear hfz28_3
           try clear hfz30_0
           try clear hfz30_1
           try clear hfz30_2
           try clear hfz33_0
           try clear hfz33_1
           try clear hfz33_2
           try clear hfz35_0
           try clear hfz35_1
           try clear hfz35_2
           try clear hfz35_3
           try clear hfz37_0
           try clear hfz37_1
           try clear hfz37_2
           try clear hfz39_0
           try clear hfz39_1
           try clear hfz39_2
           try clear hfz41_0
           try clear hfz41_1
           try clear hfz41_2
           try clear hfz41_3
           try clear hfz44_0
           try clear hfz44_1
           try clear hfz44_2
           try clear hfz46_0
           try clear hfz46_1
           try clear hfz46_2
           try clear hfz46_3
           try clear hfz48_0
           try clear hfz48_1
           try clear hfz48_2
           try clear hfz50_0
           try clear hfz50_1
           try clear hfz50_2
           try clear hfz50_3
           try clear hfz52_0
           try clear hfz52_1
           try clear hfz52_2
           try clear hx607_0
           try clear p2
           try clear p6
           try clear p60
           try clear p607
           try clear p64
           try clear q6
           try clear q60
           try clear q607
           obtain ⟨x92_3, rfl, HA, HK3, HO_3, HO_90, BK581, BK586, HB⟩ := hrel
           cases gk with
           | zero => exact absurd HA.out (by simp [laws_FnCount.l0])
           | succ k3 =>
            have H := HA.out
            clear HA
            simp only [laws_FnCount.l0] at H
            by_cases c77 : x92_3 < (t587.length : Int)
            ·rw [if_pos c77] at H
             have c77b0 : decide (x92_3 < (t587.length : Int)) = true := decide_eq_true c77
             clear c77
             by_cases c78 : 0 ≤ x92_3
             ·rw [if_pos c78] at H
              have c78b0 : decide (0 ≤ x92_3) = true := decide_eq_true c78
              clear c78
              by_cases c79 : x92_3 < (t587.length : Int)
              ·rw [if_pos c79] at H
               have c79b0 : decide (x92_3 < (t587.length : Int)) = true := decide_eq_true c79
               clear c79
               obtain ⟨y609, hy609⟩ : ∃ y_ : List ByteArray, y_ = (([] : List ByteArray)) := ⟨_, rfl⟩
               replace H : (if y609.length + t575.length < 8796093022208 then ((some (y609 ++ t575 : List ByteArray)).bind fun y612 => ((some (([rdOf ByteArray.empty t587 x92_3] : List ByteArray) : List ByteArray)).bind fun y615 => (if y612.length + y615.length < 8796093022208 then ((impl_HitsOf.f k3 t578 t579 t580 (y612 ++ y615)).bind fun t621 => (if (t621.length : Int) = (wrap64 ((t575.length : Int) + 1)) then (if 0 ≤ (t575.length : Int) then (if (t575.length : Int) < (t621.length : Int) then (if (rdOf false t621 (t575.length : Int) = true) then (laws_FnCount.l0 k3 t575 t587 (t587.length : Int) (wrap64 (x92_3 + 1)) t578 t579 t580 t582 t583 t584 t585) else (some false)) else (none)) else (none)) else (some false))) else (none)))) else (none)) = some true := by first | (rw [hy609]; with_reducible exact H) | (have H2_ := (Option.bind_some _ _).symm.trans H; rw [hy609]; with_reducible exact H2_) | (have H2_ := (Option.bind_some _ _).symm.trans H; with_reducible exact H2_) | with_reducible exact H | (rw [hy609]; exact H) | exact H
               have Ny609 := Aside0.mk hy609
               clear hy609
               by_cases c80 : y609.length + t575.length < 8796093022208
               ·rw [if_pos c80] at H
                have LMc80 := Aside0.mk c80
                clear c80
                obtain ⟨y612, hy612⟩ : ∃ y_ : List ByteArray, y_ = (y609 ++ t575) := ⟨_, rfl⟩
                replace H : ((some (([rdOf ByteArray.empty t587 x92_3] : List ByteArray) : List ByteArray)).bind fun y615 => (if y612.length + y615.length < 8796093022208 then ((impl_HitsOf.f k3 t578 t579 t580 (y612 ++ y615)).bind fun t621 => (if (t621.length : Int) = (wrap64 ((t575.length : Int) + 1)) then (if 0 ≤ (t575.length : Int) then (if (t575.length : Int) < (t621.length : Int) then (if (rdOf false t621 (t575.length : Int) = true) then (laws_FnCount.l0 k3 t575 t587 (t587.length : Int) (wrap64 (x92_3 + 1)) t578 t579 t580 t582 t583 t584 t585) else (some false)) else (none)) else (none)) else (some false))) else (none))) = some true := by first | (rw [hy612]; with_reducible exact H) | (have H2_ := (Option.bind_some _ _).symm.trans H; rw [hy612]; with_reducible exact H2_) | (have H2_ := (Option.bind_some _ _).symm.trans H; with_reducible exact H2_) | with_reducible exact H | (rw [hy612]; exact H) | exact H
                have Ny612 := Aside0.mk hy612
                clear hy612
                obtain ⟨y615, hy615⟩ : ∃ y_ : List ByteArray, y_ = (([rdOf ByteArray.empty t587 x92_3] : List ByteArray)) := ⟨_, rfl⟩
                replace H : (if y612.length + y615.length < 8796093022208 then ((impl_HitsOf.f k3 t578 t579 t580 (y612 ++ y615)).bind fun t621 => (if (t621.length : Int) = (wrap64 ((t575.length : Int) + 1)) then (if 0 ≤ (t575.length : Int) then (if (t575.length : Int) < (t621.length : Int) then (if (rdOf false t621 (t575.length : Int) = true) then (laws_FnCount.l0 k3 t575 t587 (t587.length : Int) (wrap64 (x92_3 + 1)) t578 t579 t580 t582 t583 t584 t585) else (some false)) else (none)) else (none)) else (some false))) else (none)) = some true := by first | (rw [hy615]; with_reducible exact H) | (have H2_ := (Option.bind_some _ _).symm.trans H; rw [hy615]; with_reducible exact H2_) | (have H2_ := (Option.bind_some _ _).symm.trans H; with_reducible exact H2_) | with_reducible exact H | (rw [hy615]; exact H) | exact H
                have Ny615 := Aside0.mk hy615
                clear hy615
                by_cases c81 : y612.length + y615.length < 8796093022208
                ·rw [if_pos c81] at H
                 have LMc81 := Aside0.mk c81
                 clear c81
                 obtain ⟨y618, hy618⟩ : ∃ y_ : List ByteArray, y_ = (y612 ++ y615) := ⟨_, rfl⟩
                 replace H : ((impl_HitsOf.f k3 t578 t579 t580 y618).bind fun t621 => (if (t621.length : Int) = (wrap64 ((t575.length : Int) + 1)) then (if 0 ≤ (t575.length : Int) then (if (t575.length : Int) < (t621.length : Int) then (if (rdOf false t621 (t575.length : Int) = true) then (laws_FnCount.l0 k3 t575 t587 (t587.length : Int) (wrap64 (x92_3 + 1)) t578 t579 t580 t582 t583 t584 t585) else (some false)) else (none)) else (none)) else (some false))) = some true := by first | (rw [hy618]; with_reducible exact H) | (have H2_ := (Option.bind_some _ _).symm.trans H; rw [hy618]; with_reducible exact H2_) | (have H2_ := (Option.bind_some _ _).symm.trans H; with_reducible exact H2_) | with_reducible exact H | (rw [hy618]; exact H) | exact H
                 have Ny618 := Aside0.mk hy618
                 clear hy618
                 replace H := Option.bind_eq_some_iff.mp H
                 obtain ⟨t621, A820, H⟩ := H
                 replace H : (if (t621.length : Int) = (wrap64 ((t575.length : Int) + 1)) then (if 0 ≤ (t575.length : Int) then (if (t575.length : Int) < (t621.length : Int) then (if (rdOf false t621 (t575.length : Int) = true) then (laws_FnCount.l0 k3 t575 t587 (t587.length : Int) (wrap64 (x92_3 + 1)) t578 t579 t580 t582 t583 t584 t585) else (some false)) else (none)) else (none)) else (some false)) = some true := H
                 have A82 := Aside0.mk A820
                 clear A820
                 by_cases c83 : (t621.length : Int) = (wrap64 ((t575.length : Int) + 1))
                 ·rw [if_pos c83] at H
                  have c83b0 : ((t621.length : Int) == (wrap64 ((t575.length : Int) + 1))) = true := beq_iff_eq.mpr c83
                  have c83b1 : ((t621.length : Int) != (wrap64 ((t575.length : Int) + 1))) = false := bne_eq_false_iff_eq.mpr c83
                  clear c83
                  by_cases c84 : 0 ≤ (t575.length : Int)
                  ·rw [if_pos c84] at H
                   have c84b0 : decide (0 ≤ (t575.length : Int)) = true := decide_eq_true c84
                   have c84b1 : decide (0 ≤ t575.length) = true := decide_eq_true (by omega)
                   clear c84
                   by_cases c85 : (t575.length : Int) < (t621.length : Int)
                   ·rw [if_pos c85] at H
                    have c85b0 : decide ((t575.length : Int) < (t621.length : Int)) = true := decide_eq_true c85
                    have c85b1 : decide (t575.length < t621.length) = true := decide_eq_true (Int.ofNat_lt.mp c85)
                    clear c85
                    obtain ⟨bq86, hbq86⟩ : ∃ b_ : Bool, b_ = (rdOf false t621 (t575.length : Int)) := ⟨_, rfl⟩
                    replace H : (if (bq86 = true) then (laws_FnCount.l0 k3 t575 t587 (t587.length : Int) (wrap64 (x92_3 + 1)) t578 t579 t580 t582 t583 t584 t585) else (some false)) = some true := by rw [← hbq86] at H; exact H
                    have Nbq86 := Aside0.mk hbq86
                    clear hbq86
                    by_cases c87 : (bq86 = true)
                    ·subst c87
                     have H1 : (laws_FnCount.l0 k3 t575 t587 (t587.length : Int) (wrap64 (x92_3 + 1)) t578 t579 t580 t582 t583 t584 t585) = some true := by rw [if_pos rfl] at H; exact H
                     clear H
                     have H := H1
                     clear H1
                     have H' := Aside0.mk H
                     clear H
                     have p608 : 0 ≤ (x92_3 : Int) := of_decide_eq_true (by first | (with_reducible assumption) | assumption)
                     have q608 : x92_3 < (t587.length : Int) := of_decide_eq_true (by first | (with_reducible assumption) | assumption)
                     obtain ⟨ad608, e608, hx608_0⟩ := Kd.at_string (Kd.R_reads' HO_90.out).2.2 x92_3 p608 q608
                     cases e608
                     replace p608 := eq_true p608
                     replace q608 := eq_true q608
                     try go_wp2
                     have n0_ := Aside0.mk (Kd.R_drew HO_3.out)
                     have n1_ := Aside0.mk (Kd.R_drew HO_90.out)
                     have n2_ := Aside0.mk (blk_drew BK581.out)
                     have n3_ := Aside0.mk (blk_drew BK586.out)
                     have n4_ := Aside0.mk (below_drew1 HB.out)
                     clear HO_3
                     clear HO_90
                     clear BK581
                     clear BK586
                     clear HB
                     have HO_3 := n0_
                     have HO_90 := n1_
                     have BK581 := n2_
                     have BK586 := n3_
                     have HB := n4_
                     clear n0_ n1_ n2_ n3_ n4_
                     refine start_ (n := 9) (S := fun w' => w'.cell? ⟨gb581, 0, none⟩ = some (.int .i64 t578) ∧ w'.cell? ⟨gb581, 1, none⟩ = some (.int .i64 t579) ∧ w'.cell? ⟨gb581, 2, none⟩ = some (.int .i64 t580)) (ds := []) #[false, false, false, false, false, false, false, false, false] (by kernel_rfl) rfl rfl ⟨(blk_cell BK581.out 0).trans rfl, (blk_cell BK581.out 1).trans rfl, (blk_cell BK581.out 2).trans rfl⟩ (fun hHeld => ?_); refine with_tabW laws_FnCount.tab15 laws_FnCount.bits15 (fun HT_ HW_ => ?_)
                     generalize wr.drew = w88 at HO_3 HO_90 BK581 BK586 HB hHeld ⊢
                     refine pure_ (i := 2) (N := some 98) (v := ?_) (a' := ?_) #[false, false, true, false, false, false, false, false, false] rfl rfl (any_of HT_.out (by kernel_rfl)) (fun _ _ _ h => h) (Or.inl ⟨by rfl, ?_⟩) ?_ ?_
                     rotate_left
                     ·intro w'
                      go_simp
                      with_reducible rfl
                     rotate_left
                     ·simp only [Act.put, lz1, lz2, lz3, i64_w, i32_w]
                      rfl
                     refine pure_ (i := 4) (N := some 100) (v := ?_) (a' := ?_) #[false, false, true, false, true, false, false, false, false] rfl rfl (any_of HT_.out (by kernel_rfl)) (fun _ _ _ h => h) (Or.inl ⟨by rfl, ?_⟩) ?_ ?_
                     rotate_left
                     ·intro w'
                      go_simp
                      with_reducible rfl
                     rotate_left
                     ·simp only [Act.put, lz1, lz2, lz3, i64_w, i32_w]
                      rfl
                     refine take_ (i := 0) (N := some 96) (v := ?_) (a' := ?_) #[true, false, true, false, true, false, false, false, false] rfl rfl (take_ofW HT_.out HW_.out (by kernel_rfl)) (fun _ _ _ h => h) (Or.inl ⟨by rfl, ?_⟩) hHeld ?_ ?_
                     rotate_left
                     ·rintro w' ⟨s0, s1, s2⟩
                      go_simp
                      with_reducible rfl
                     rotate_left
                     ·simp only [Act.put, lz1, lz2, lz3, i64_w, i32_w]
                      rfl
                     refine join_ (σ := Value × Value × Value) 3 #[true, true, true, true, true, true, false, false, false] (fun s_ => [(97, s_.1), (99, s_.2.1), (101, s_.2.2)]) (fun s_ w' => (w'.cell? ⟨gb581, 0, none⟩ = some (.int .i64 t578) ∧ w'.cell? ⟨gb581, 1, none⟩ = some (.int .i64 t579) ∧ w'.cell? ⟨gb581, 2, none⟩ = some (.int .i64 t580)) ∧ (Kd.R Kd.string 9 w' w.heap.size (fun k_ => some k_ ≠ (s_.2.2 : Value).ownBlock ∧ some k_ ≠ (.slice Ao12 t575.length co12 : Value).ownBlock ∧ some k_ ≠ (.slice (some ad608) t587.length co76 : Value).ownBlock) s_.2.1 y612) ∧ (Kd.R Kd.string 9 w' w.heap.size (fun k_ => some k_ ≠ (s_.2.1 : Value).ownBlock ∧ some k_ ≠ (.slice Ao12 t575.length co12 : Value).ownBlock ∧ some k_ ≠ (.slice (some ad608) t587.length co76 : Value).ownBlock) s_.2.2 y615) ∧ (Kd.R Kd.string 9 w' w.heap.size (fun k_ => some k_ ≠ (s_.2.1 : Value).ownBlock ∧ some k_ ≠ (s_.2.2 : Value).ownBlock ∧ some k_ ≠ (.slice (some ad608) t587.length co76 : Value).ownBlock) (.slice Ao12 t575.length co12) t575) ∧ (Kd.R Kd.string 9 w' w.heap.size (fun k_ => some k_ ≠ (s_.2.1 : Value).ownBlock ∧ some k_ ≠ (s_.2.2 : Value).ownBlock ∧ some k_ ≠ (.slice Ao12 t575.length co12 : Value).ownBlock) (.slice (some ad608) t587.length co76) t587) ∧ (w'.heap[gb581]? = some (.cells #[.int .i64 t578, .int .i64 t579, .int .i64 t580] 28 (0, 0))) ∧ (w'.heap[gb586]? = some (.cells #[.int .i64 t582, .int .i64 t583, .int .i64 t584, .int .i64 t585] 45 (0, 0))) ∧ (Below w.heap.size w w')) ?_ ?_
                     rotate_left
                     ·intro hCont
                      refine two_ (i := 1) (j := 5) (Ni := some 97) (Nj := some 101) #[true, true, true, false, true, false, false, false, false] #[true, false, true, false, true, true, false, false, false] rfl rfl rfl rfl (two_of HT_.out (by kernel_rfl)) (by decide) (by decide) (fun K hK => ?_) (fun K hK => ?_)
                      ·skip
                       refine Kd.R_lit_step Kd.string _ 9 ?hg (N := 97) ?hd (xs := ([] : List ByteArray)) (inner := []) (ok := fun _ => True) (okp := fun _ => True) ?hr ?hp (fun _ hk => hk) trivial (Below.refl _ _) (Nat.le_refl _) (by simp) ?_; (case hd => rfl); (case hg => rfl); (case hr => first | (go_simp; done) | (go_simp; rfl)); (case hp => exact (Reps.none _ _))
                       intro v610 w89 ho90 hb hg_ hnew_
                       clear hg_ hnew_
                       (first | rw [← Ny609.out] at ho90 | (simp only [Int.reduceToNat] at ho90; rw [← Ny609.out] at ho90))
                       have n0_ := Aside0.mk (Kd.R_elder' (by (with_reducible repeat (first | apply Kd.R_alloc | apply Kd.R_drewN | apply Kd.R_drew)); exact HO_3.out) (Kd.R_base ho90) hb)
                       have n1_ := Aside0.mk (Kd.R_elder' (by (with_reducible repeat (first | apply Kd.R_alloc | apply Kd.R_drewN | apply Kd.R_drew)); exact HO_90.out) (Kd.R_base ho90) hb)
                       have n2_ := Aside0.mk (Kd.R_lower (Kd.R_new' (Kd.R_new' ho90 (Kd.R_lt (by (with_reducible repeat (first | apply Kd.R_alloc | apply Kd.R_drewN | apply Kd.R_drew)); exact HO_3.out))) (Kd.R_lt (by (with_reducible repeat (first | apply Kd.R_alloc | apply Kd.R_drewN | apply Kd.R_drew)); exact HO_90.out))) (below_size (by repeat (first | (with_reducible first | exact HB.out | apply below_alloc | apply pw_below_drewN | apply below_drew1 | refine below_set ?_ GE581.out | refine below_set ?_ GE586.out) | exact HB.out))))
                       have n3_ := Aside0.mk (blk_below (g := gb581) (o := .cells #[.int .i64 t578, .int .i64 t579, .int .i64 t580] 28 (0, 0)) (by (with_reducible repeat (first | refine blk_drewN ?_ _ | refine blk_drew ?_ | refine blk_alloc ?_ _)); exact BK581.out) hb)
                       have n4_ := Aside0.mk (blk_below (g := gb586) (o := .cells #[.int .i64 t582, .int .i64 t583, .int .i64 t584, .int .i64 t585] 45 (0, 0)) (by (with_reducible repeat (first | refine blk_drewN ?_ _ | refine blk_drew ?_ | refine blk_alloc ?_ _)); exact BK586.out) hb)
                       have n5_ := Aside0.mk (below_step (by repeat (first | (with_reducible first | exact HB.out | apply below_alloc | apply pw_below_drewN | apply below_drew1 | refine below_set ?_ GE581.out | refine below_set ?_ GE586.out) | exact HB.out)) hb)
                       clear HO_3
                       clear HO_90
                       clear BK581
                       clear BK586
                       clear HB
                       have HO_3 := n0_
                       have HO_90 := n1_
                       have HO611 := n2_
                       have BK581 := n3_
                       have BK586 := n4_
                       have HB := n5_
                       clear n0_ n1_ n2_ n3_ n4_ n5_
                       clear hb ho90
                       refine hK.out _ _ ⟨(blk_cell BK581.out 0).trans rfl, (blk_cell BK581.out 1).trans rfl, (blk_cell BK581.out 2).trans rfl⟩ (fun hHeld => ?_)
                       clear hK K
                       refine norm_ (a' := ?_) ?_ ?_
                       rotate_left
                       ·show Act.put _ (some 97) _ = _
                        simp only [Act.put, lz1, lz2, lz3, i64_w, i32_w]
                        rfl
                       refine two_ (i := 3) (j := 5) (Ni := some 99) (Nj := some 101) #[true, true, true, true, true, false, false, false, false] #[true, true, true, false, true, true, false, false, false] rfl rfl rfl rfl (two_of HT_.out (by kernel_rfl)) (by decide) (by decide) (fun K hK => ?_) (fun K hK => ?_)
                       ·skip
                        refine Kd.R_append_rows_step Kd.string (w0 := w) w.heap.size (by rfl) (.tmp 97) (.tmp 98) 23 9 (.string ⟨#[]⟩) 16 rfl Try.underlying23 info9 rfl (by decide) (by omega) v610 y609 t575 _ _ _ (fun k_ => some k_ ≠ (.slice Ao12 t575.length co12 : Value).ownBlock ∧ some k_ ≠ (.slice (some ad608) t587.length co76 : Value).ownBlock) (fun _ => False) rfl rfl ?aO ?aR (fun _ _ h => h) (fun _ h => h.elim) ?aF ?aB ?aS ?aL ?_
                        (case aR => repeat (first | exact (Kd.R_reads' HO_3.out).2.2 | (with_reducible refine Kd.C_alloc ?_ _) | (with_reducible refine Kd.C_drewN ?_ _) | (with_reducible refine Kd.C_drew ?_)))
                        (case aB => exact (by repeat (first | (with_reducible first | exact HB.out | apply below_alloc | apply pw_below_drewN | apply below_drew1 | refine below_set ?_ GE581.out | refine below_set ?_ GE586.out) | exact HB.out)))
                        (case aF => exact (fun k_ hk => ⟨Kd.fresh' (Kd.R_lt (by (with_reducible repeat (first | apply Kd.R_alloc | apply Kd.R_drewN | apply Kd.R_drew)); exact HO_3.out)) k_ hk, Kd.fresh' (Kd.R_lt (by (with_reducible repeat (first | apply Kd.R_alloc | apply Kd.R_drewN | apply Kd.R_drew)); exact HO_90.out)) k_ hk⟩))
                        (case aO => exact (by (with_reducible repeat (first | apply Kd.R_alloc | apply Kd.R_drewN | apply Kd.R_drew)); exact Kd.R_mono HO611.out (fun _ hk => ⟨hk.1.2, hk.2⟩)))
                        (case aS => exact (below_size (by repeat (first | (with_reducible first | exact HB.out | apply below_alloc | apply pw_below_drewN | apply below_drew1 | refine below_set ?_ GE581.out | refine below_set ?_ GE586.out) | exact HB.out))))
                        (case aL => have := LMc80.out; omega)
                        intro v613 w91 ho hb hg hat
                        rw [← Ny612.out] at ho
                        have n0_ := Aside0.mk (Kd.R_after (ok := (fun k_ => some k_ ≠ (.slice (some ad608) t587.length co76 : Value).ownBlock)) (by (with_reducible repeat (first | apply Kd.R_alloc | apply Kd.R_drewN | apply Kd.R_drew)); exact HO_3.out) hg hat)
                        have n1_ := Aside0.mk (Kd.R_after (ok := (fun k_ => some k_ ≠ (.slice Ao12 t575.length co12 : Value).ownBlock)) (by (with_reducible repeat (first | apply Kd.R_alloc | apply Kd.R_drewN | apply Kd.R_drew)); exact HO_90.out) hg hat)
                        have n2_ := Aside0.mk (blk_grown (g := gb581) (o := .cells #[.int .i64 t578, .int .i64 t579, .int .i64 t580] 28 (0, 0)) (by (with_reducible repeat (first | refine blk_drewN ?_ _ | refine blk_drew ?_ | refine blk_alloc ?_ _)); exact BK581.out) hg (Kd.R_ne HO611.out BK581.out (by decide)))
                        have n3_ := Aside0.mk (blk_grown (g := gb586) (o := .cells #[.int .i64 t582, .int .i64 t583, .int .i64 t584, .int .i64 t585] 45 (0, 0)) (by (with_reducible repeat (first | refine blk_drewN ?_ _ | refine blk_drew ?_ | refine blk_alloc ?_ _)); exact BK586.out) hg (Kd.R_ne HO611.out BK586.out (by decide)))
                        have n4_ := Aside0.mk (hb)
                        have n5_ := Aside0.mk (ho)
                        clear HO_3
                        clear HO_90
                        clear BK581
                        clear BK586
                        clear HB
                        clear HO611
                        have HO_3 := n0_
                        have HO_90 := n1_
                        have BK581 := n2_
                        have BK586 := n3_
                        have HB := n4_
                        have HO614 := n5_
                        clear n0_ n1_ n2_ n3_ n4_ n5_
                        clear ho hb hg hat
                        refine hK.out _ _ ⟨(blk_cell BK581.out 0).trans rfl, (blk_cell BK581.out 1).trans rfl, (blk_cell BK581.out 2).trans rfl⟩ (fun hHeld => ?_)
                        clear hK K
                        refine norm_ (a' := ?_) ?_ ?_
                        rotate_left
                        ·show Act.put _ (some 99) _ = _
                         simp only [Act.put, lz1, lz2, lz3, i64_w, i32_w]
                         rfl
                        refine one_ (i := 5) (N := some 101) #[true, true, true, true, true, true, false, false, false] rfl rfl (one_of HT_.out (by kernel_rfl)) (by decide) (fun K hK => ?_)
                        refine Kd.R_lit_step Kd.string _ 9 ?hg (N := 101) ?hd (xs := ([rdOf ByteArray.empty t587 x92_3] : List ByteArray)) (inner := [.string (rdOf ByteArray.empty t587 x92_3)]) (ok := fun _ => True) (okp := fun _ => True) ?hr ?hp (fun _ hk => hk) trivial (Below.refl _ _) (Nat.le_refl _) (by simp) ?_; (case hd => rfl); (case hg => rfl); (case hr => first | (go_simp; done) | (go_simp; rfl)); (case hp => exact (Reps.one (show Kd.M Kd.string _ _ _ (rdOf ByteArray.empty t587 x92_3) [.string (rdOf ByteArray.empty t587 x92_3)] from rfl) (Reps.none _ _)))
                        intro v616 w92 ho93 hb hg_ hnew_
                        clear hg_ hnew_
                        (first | rw [← Ny615.out] at ho93 | (simp only [Int.reduceToNat] at ho93; rw [← Ny615.out] at ho93))
                        have n0_ := Aside0.mk (Kd.R_elder' (by (with_reducible repeat (first | apply Kd.R_alloc | apply Kd.R_drewN | apply Kd.R_drew)); exact HO_3.out) (Kd.R_base ho93) hb)
                        have n1_ := Aside0.mk (Kd.R_elder' (by (with_reducible repeat (first | apply Kd.R_alloc | apply Kd.R_drewN | apply Kd.R_drew)); exact HO_90.out) (Kd.R_base ho93) hb)
                        have n2_ := Aside0.mk (Kd.R_elder' (by (with_reducible repeat (first | apply Kd.R_alloc | apply Kd.R_drewN | apply Kd.R_drew)); exact HO614.out) (Kd.R_base ho93) hb)
                        have n3_ := Aside0.mk (Kd.R_lower (Kd.R_new' (Kd.R_new' (Kd.R_new' ho93 (Kd.R_lt (by (with_reducible repeat (first | apply Kd.R_alloc | apply Kd.R_drewN | apply Kd.R_drew)); exact HO_3.out))) (Kd.R_lt (by (with_reducible repeat (first | apply Kd.R_alloc | apply Kd.R_drewN | apply Kd.R_drew)); exact HO_90.out))) (Kd.R_lt (by (with_reducible repeat (first | apply Kd.R_alloc | apply Kd.R_drewN | apply Kd.R_drew)); exact HO614.out))) (below_size (by repeat (first | (with_reducible first | exact HB.out | apply below_alloc | apply pw_below_drewN | apply below_drew1 | refine below_set ?_ GE581.out | refine below_set ?_ GE586.out) | exact HB.out))))
                        have n4_ := Aside0.mk (blk_below (g := gb581) (o := .cells #[.int .i64 t578, .int .i64 t579, .int .i64 t580] 28 (0, 0)) (by (with_reducible repeat (first | refine blk_drewN ?_ _ | refine blk_drew ?_ | refine blk_alloc ?_ _)); exact BK581.out) hb)
                        have n5_ := Aside0.mk (blk_below (g := gb586) (o := .cells #[.int .i64 t582, .int .i64 t583, .int .i64 t584, .int .i64 t585] 45 (0, 0)) (by (with_reducible repeat (first | refine blk_drewN ?_ _ | refine blk_drew ?_ | refine blk_alloc ?_ _)); exact BK586.out) hb)
                        have n6_ := Aside0.mk (below_step (by repeat (first | (with_reducible first | exact HB.out | apply below_alloc | apply pw_below_drewN | apply below_drew1 | refine below_set ?_ GE581.out | refine below_set ?_ GE586.out) | exact HB.out)) hb)
                        clear HO_3
                        clear HO_90
                        clear HO614
                        clear BK581
                        clear BK586
                        clear HB
                        have HO_3 := n0_
                        have HO_90 := n1_
                        have HO614 := n2_
                        have HO617 := n3_
                        have BK581 := n4_
                        have BK586 := n5_
                        have HB := n6_
                        clear n0_ n1_ n2_ n3_ n4_ n5_ n6_
                        clear hb ho93
                        refine hK.out _ _ ⟨(blk_cell BK581.out 0).trans rfl, (blk_cell BK581.out 1).trans rfl, (blk_cell BK581.out 2).trans rfl⟩ (fun hHeld => ?_)
                        clear hK K
                        refine norm_ (a' := ?_) ?_ ?_
                        rotate_left
                        ·show Act.put _ (some 101) _ = _
                         simp only [Act.put, lz1, lz2, lz3, i64_w, i32_w]
                         rfl
                        exact norm_ (by simp only [putAll, Act.put, List.setIfInBounds_toArray, List.set_cons_zero, List.set_cons_succ]) (hCont (v610, v613, v616) _ ⟨hHeld, (by (with_reducible repeat (first | apply Kd.R_alloc | apply Kd.R_drewN | apply Kd.R_drew)); exact Kd.R_mono HO614.out (fun _ hk => ⟨hk.2, ⟨hk.1.1, hk.1.2⟩⟩)), (by (with_reducible repeat (first | apply Kd.R_alloc | apply Kd.R_drewN | apply Kd.R_drew)); exact Kd.R_mono HO617.out (fun _ hk => ⟨hk.2, ⟨hk.1.1.2, hk.1.2⟩⟩)), (by (with_reducible repeat (first | apply Kd.R_alloc | apply Kd.R_drewN | apply Kd.R_drew)); exact Kd.R_mono HO_3.out (fun _ hk => ⟨hk.1.2, ⟨hk.2, hk.1.1⟩⟩)), (by (with_reducible repeat (first | apply Kd.R_alloc | apply Kd.R_drewN | apply Kd.R_drew)); exact Kd.R_mono HO_90.out (fun _ hk => ⟨hk.1.2, ⟨hk.2, hk.1.1⟩⟩)), (by (with_reducible repeat (first | refine blk_drewN ?_ _ | refine blk_drew ?_ | refine blk_alloc ?_ _)); exact BK581.out), (by (with_reducible repeat (first | refine blk_drewN ?_ _ | refine blk_drew ?_ | refine blk_alloc ?_ _)); exact BK586.out), (by repeat (first | (with_reducible first | exact HB.out | apply below_alloc | apply pw_below_drewN | apply below_drew1 | refine below_set ?_ GE581.out | refine below_set ?_ GE586.out) | exact HB.out))⟩)
                       ·skip
                        refine Kd.R_lit_step Kd.string _ 9 ?hg (N := 101) ?hd (xs := ([rdOf ByteArray.empty t587 x92_3] : List ByteArray)) (inner := [.string (rdOf ByteArray.empty t587 x92_3)]) (ok := fun _ => True) (okp := fun _ => True) ?hr ?hp (fun _ hk => hk) trivial (Below.refl _ _) (Nat.le_refl _) (by simp) ?_; (case hd => rfl); (case hg => rfl); (case hr => first | (go_simp; done) | (go_simp; rfl)); (case hp => exact (Reps.one (show Kd.M Kd.string _ _ _ (rdOf ByteArray.empty t587 x92_3) [.string (rdOf ByteArray.empty t587 x92_3)] from rfl) (Reps.none _ _)))
                        intro v616 w91 ho92 hb hg_ hnew_
                        clear hg_ hnew_
                        (first | rw [← Ny615.out] at ho92 | (simp only [Int.reduceToNat] at ho92; rw [← Ny615.out] at ho92))
                        have n0_ := Aside0.mk (Kd.R_elder' (by (with_reducible repeat (first | apply Kd.R_alloc | apply Kd.R_drewN | apply Kd.R_drew)); exact HO_3.out) (Kd.R_base ho92) hb)
                        have n1_ := Aside0.mk (Kd.R_elder' (by (with_reducible repeat (first | apply Kd.R_alloc | apply Kd.R_drewN | apply Kd.R_drew)); exact HO_90.out) (Kd.R_base ho92) hb)
                        have n2_ := Aside0.mk (Kd.R_elder' (by (with_reducible repeat (first | apply Kd.R_alloc | apply Kd.R_drewN | apply Kd.R_drew)); exact HO611.out) (Kd.R_base ho92) hb)
                        have n3_ := Aside0.mk (Kd.R_lower (Kd.R_new' (Kd.R_new' (Kd.R_new' ho92 (Kd.R_lt (by (with_reducible repeat (first | apply Kd.R_alloc | apply Kd.R_drewN | apply Kd.R_drew)); exact HO_3.out))) (Kd.R_lt (by (with_reducible repeat (first | apply Kd.R_alloc | apply Kd.R_drewN | apply Kd.R_drew)); exact HO_90.out))) (Kd.R_lt (by (with_reducible repeat (first | apply Kd.R_alloc | apply Kd.R_drewN | apply Kd.R_drew)); exact HO611.out))) (below_size (by repeat (first | (with_reducible first | exact HB.out | apply below_alloc | apply pw_below_drewN | apply below_drew1 | refine below_set ?_ GE581.out | refine below_set ?_ GE586.out) | exact HB.out))))
                        have n4_ := Aside0.mk (blk_below (g := gb581) (o := .cells #[.int .i64 t578, .int .i64 t579, .int .i64 t580] 28 (0, 0)) (by (with_reducible repeat (first | refine blk_drewN ?_ _ | refine blk_drew ?_ | refine blk_alloc ?_ _)); exact BK581.out) hb)
                        have n5_ := Aside0.mk (blk_below (g := gb586) (o := .cells #[.int .i64 t582, .int .i64 t583, .int .i64 t584, .int .i64 t585] 45 (0, 0)) (by (with_reducible repeat (first | refine blk_drewN ?_ _ | refine blk_drew ?_ | refine blk_alloc ?_ _)); exact BK586.out) hb)
                        have n6_ := Aside0.mk (below_step (by repeat (first | (with_reducible first | exact HB.out | apply below_alloc | apply pw_below_drewN | apply below_drew1 | refine below_set ?_ GE581.out | refine below_set ?_ GE586.out) | exact HB.out)) hb)
                        clear HO_3
                        clear HO_90
                        clear HO611
                        clear BK581
                        clear BK586
                        clear HB
                        have HO_3 := n0_
                        have HO_90 := n1_
                        have HO611 := n2_
                        have HO617 := n3_
                        have BK581 := n4_
                        have BK586 := n5_
                        have HB := n6_
                        clear n0_ n1_ n2_ n3_ n4_ n5_ n6_
                        clear hb ho92
                        refine hK.out _ _ ⟨(blk_cell BK581.out 0).trans rfl, (blk_cell BK581.out 1).trans rfl, (blk_cell BK581.out 2).trans rfl⟩ (fun hHeld => ?_)
                        clear hK K
                        refine norm_ (a' := ?_) ?_ ?_
                        rotate_left
                        ·show Act.put _ (some 101) _ = _
                         simp only [Act.put, lz1, lz2, lz3, i64_w, i32_w]
                         rfl
                        refine one_ (i := 3) (N := some 99) #[true, true, true, true, true, true, false, false, false] rfl rfl (one_of HT_.out (by kernel_rfl)) (by decide) (fun K hK => ?_)
                        refine Kd.R_append_rows_step Kd.string (w0 := w) w.heap.size (by rfl) (.tmp 97) (.tmp 98) 23 9 (.string ⟨#[]⟩) 16 rfl Try.underlying23 info9 rfl (by decide) (by omega) v610 y609 t575 _ _ _ (fun k_ => some k_ ≠ (.slice Ao12 t575.length co12 : Value).ownBlock ∧ some k_ ≠ (.slice (some ad608) t587.length co76 : Value).ownBlock ∧ some k_ ≠ (v616 : Value).ownBlock) (fun _ => False) rfl rfl ?aO ?aR (fun _ _ h => h) (fun _ h => h.elim) ?aF ?aB ?aS ?aL ?_
                        (case aR => repeat (first | exact (Kd.R_reads' HO_3.out).2.2 | (with_reducible refine Kd.C_alloc ?_ _) | (with_reducible refine Kd.C_drewN ?_ _) | (with_reducible refine Kd.C_drew ?_)))
                        (case aB => exact (by repeat (first | (with_reducible first | exact HB.out | apply below_alloc | apply pw_below_drewN | apply below_drew1 | refine below_set ?_ GE581.out | refine below_set ?_ GE586.out) | exact HB.out)))
                        (case aF => exact (fun k_ hk => ⟨Kd.fresh' (Kd.R_lt (by (with_reducible repeat (first | apply Kd.R_alloc | apply Kd.R_drewN | apply Kd.R_drew)); exact HO_3.out)) k_ hk, Kd.fresh' (Kd.R_lt (by (with_reducible repeat (first | apply Kd.R_alloc | apply Kd.R_drewN | apply Kd.R_drew)); exact HO_90.out)) k_ hk, Kd.fresh' (Kd.R_lt (by (with_reducible repeat (first | apply Kd.R_alloc | apply Kd.R_drewN | apply Kd.R_drew)); exact HO617.out)) k_ hk⟩))
                        (case aO => exact (by (with_reducible repeat (first | apply Kd.R_alloc | apply Kd.R_drewN | apply Kd.R_drew)); exact Kd.R_mono HO611.out (fun _ hk => ⟨hk.1.1.2, ⟨hk.1.2, hk.2⟩⟩)))
                        (case aS => exact (below_size (by repeat (first | (with_reducible first | exact HB.out | apply below_alloc | apply pw_below_drewN | apply below_drew1 | refine below_set ?_ GE581.out | refine below_set ?_ GE586.out) | exact HB.out))))
                        (case aL => have := LMc80.out; omega)
                        intro v613 w93 ho hb hg hat
                        rw [← Ny612.out] at ho
                        have n0_ := Aside0.mk (Kd.R_after (ok := (fun k_ => some k_ ≠ (.slice (some ad608) t587.length co76 : Value).ownBlock ∧ some k_ ≠ (v616 : Value).ownBlock)) (by (with_reducible repeat (first | apply Kd.R_alloc | apply Kd.R_drewN | apply Kd.R_drew)); exact Kd.R_mono HO_3.out (fun _ hk => ⟨⟨hk.1.1, hk.2⟩, hk.1.2⟩)) hg hat)
                        have n1_ := Aside0.mk (Kd.R_after (ok := (fun k_ => some k_ ≠ (.slice Ao12 t575.length co12 : Value).ownBlock ∧ some k_ ≠ (v616 : Value).ownBlock)) (by (with_reducible repeat (first | apply Kd.R_alloc | apply Kd.R_drewN | apply Kd.R_drew)); exact Kd.R_mono HO_90.out (fun _ hk => ⟨⟨hk.1.1, hk.2⟩, hk.1.2⟩)) hg hat)
                        have n2_ := Aside0.mk (blk_grown (g := gb581) (o := .cells #[.int .i64 t578, .int .i64 t579, .int .i64 t580] 28 (0, 0)) (by (with_reducible repeat (first | refine blk_drewN ?_ _ | refine blk_drew ?_ | refine blk_alloc ?_ _)); exact BK581.out) hg (Kd.R_ne HO611.out BK581.out (by decide)))
                        have n3_ := Aside0.mk (blk_grown (g := gb586) (o := .cells #[.int .i64 t582, .int .i64 t583, .int .i64 t584, .int .i64 t585] 45 (0, 0)) (by (with_reducible repeat (first | refine blk_drewN ?_ _ | refine blk_drew ?_ | refine blk_alloc ?_ _)); exact BK586.out) hg (Kd.R_ne HO611.out BK586.out (by decide)))
                        have n4_ := Aside0.mk (Kd.R_after (ok := (fun k_ => some k_ ≠ (.slice Ao12 t575.length co12 : Value).ownBlock ∧ some k_ ≠ (.slice (some ad608) t587.length co76 : Value).ownBlock)) (by (with_reducible repeat (first | apply Kd.R_alloc | apply Kd.R_drewN | apply Kd.R_drew)); exact Kd.R_mono HO617.out (fun _ hk => ⟨⟨hk.1.1.2, hk.1.2⟩, hk.2⟩)) hg hat)
                        have n5_ := Aside0.mk (hb)
                        have n6_ := Aside0.mk (ho)
                        clear HO_3
                        clear HO_90
                        clear BK581
                        clear BK586
                        clear HO617
                        clear HB
                        clear HO611
                        have HO_3 := n0_
                        have HO_90 := n1_
                        have BK581 := n2_
                        have BK586 := n3_
                        have HO617 := n4_
                        have HB := n5_
                        have HO614 := n6_
                        clear n0_ n1_ n2_ n3_ n4_ n5_ n6_
                        clear ho hb hg hat
                        refine hK.out _ _ ⟨(blk_cell BK581.out 0).trans rfl, (blk_cell BK581.out 1).trans rfl, (blk_cell BK581.out 2).trans rfl⟩ (fun hHeld => ?_)
                        clear hK K
                        refine norm_ (a' := ?_) ?_ ?_
                        rotate_left
                        ·show Act.put _ (some 99) _ = _
                         simp only [Act.put, lz1, lz2, lz3, i64_w, i32_w]
                         rfl
                        exact norm_ (by simp only [putAll, Act.put, List.setIfInBounds_toArray, List.set_cons_zero, List.set_cons_succ]) (hCont (v610, v613, v616) _ ⟨hHeld, (by (with_reducible repeat (first | apply Kd.R_alloc | apply Kd.R_drewN | apply Kd.R_drew)); exact Kd.R_mono HO614.out (fun _ hk => ⟨hk.2.2, ⟨hk.1, hk.2.1⟩⟩)), (by (with_reducible repeat (first | apply Kd.R_alloc | apply Kd.R_drewN | apply Kd.R_drew)); exact Kd.R_mono HO617.out (fun _ hk => ⟨hk.2, ⟨hk.1.1, hk.1.2⟩⟩)), (by (with_reducible repeat (first | apply Kd.R_alloc | apply Kd.R_drewN | apply Kd.R_drew)); exact Kd.R_mono HO_3.out (fun _ hk => ⟨hk.2, ⟨hk.1.2, hk.1.1⟩⟩)), (by (with_reducible repeat (first | apply Kd.R_alloc | apply Kd.R_drewN | apply Kd.R_drew)); exact Kd.R_mono HO_90.out (fun _ hk => ⟨hk.2, ⟨hk.1.2, hk.1.1⟩⟩)), (by (with_reducible repeat (first | refine blk_drewN ?_ _ | refine blk_drew ?_ | refine blk_alloc ?_ _)); exact BK581.out), (by (with_reducible repeat (first | refine blk_drewN ?_ _ | refine blk_drew ?_ | refine blk_alloc ?_ _)); exact BK586.out), (by repeat (first | (with_reducible first | exact HB.out | apply below_alloc | apply pw_below_drewN | apply below_drew1 | refine below_set ?_ GE581.out | refine below_set ?_ GE586.out) | exact HB.out))⟩)
                      ·skip
                       refine Kd.R_lit_step Kd.string _ 9 ?hg (N := 101) ?hd (xs := ([rdOf ByteArray.empty t587 x92_3] : List ByteArray)) (inner := [.string (rdOf ByteArray.empty t587 x92_3)]) (ok := fun _ => True) (okp := fun _ => True) ?hr ?hp (fun _ hk => hk) trivial (Below.refl _ _) (Nat.le_refl _) (by simp) ?_; (case hd => rfl); (case hg => rfl); (case hr => first | (go_simp; done) | (go_simp; rfl)); (case hp => exact (Reps.one (show Kd.M Kd.string _ _ _ (rdOf ByteArray.empty t587 x92_3) [.string (rdOf ByteArray.empty t587 x92_3)] from rfl) (Reps.none _ _)))
                       intro v616 w89 ho90 hb hg_ hnew_
                       clear hg_ hnew_
                       (first | rw [← Ny615.out] at ho90 | (simp only [Int.reduceToNat] at ho90; rw [← Ny615.out] at ho90))
                       have n0_ := Aside0.mk (Kd.R_elder' (by (with_reducible repeat (first | apply Kd.R_alloc | apply Kd.R_drewN | apply Kd.R_drew)); exact HO_3.out) (Kd.R_base ho90) hb)
                       have n1_ := Aside0.mk (Kd.R_elder' (by (with_reducible repeat (first | apply Kd.R_alloc | apply Kd.R_drewN | apply Kd.R_drew)); exact HO_90.out) (Kd.R_base ho90) hb)
                       have n2_ := Aside0.mk (Kd.R_lower (Kd.R_new' (Kd.R_new' ho90 (Kd.R_lt (by (with_reducible repeat (first | apply Kd.R_alloc | apply Kd.R_drewN | apply Kd.R_drew)); exact HO_3.out))) (Kd.R_lt (by (with_reducible repeat (first | apply Kd.R_alloc | apply Kd.R_drewN | apply Kd.R_drew)); exact HO_90.out))) (below_size (by repeat (first | (with_reducible first | exact HB.out | apply below_alloc | apply pw_below_drewN | apply below_drew1 | refine below_set ?_ GE581.out | refine below_set ?_ GE586.out) | exact HB.out))))
                       have n3_ := Aside0.mk (blk_below (g := gb581) (o := .cells #[.int .i64 t578, .int .i64 t579, .int .i64 t580] 28 (0, 0)) (by (with_reducible repeat (first | refine blk_drewN ?_ _ | refine blk_drew ?_ | refine blk_alloc ?_ _)); exact BK581.out) hb)
                       have n4_ := Aside0.mk (blk_below (g := gb586) (o := .cells #[.int .i64 t582, .int .i64 t583, .int .i64 t584, .int .i64 t585] 45 (0, 0)) (by (with_reducible repeat (first | refine blk_drewN ?_ _ | refine blk_drew ?_ | refine blk_alloc ?_ _)); exact BK586.out) hb)
                       have n5_ := Aside0.mk (below_step (by repeat (first | (with_reducible first | exact HB.out | apply below_alloc | apply pw_below_drewN | apply below_drew1 | refine below_set ?_ GE581.out | refine below_set ?_ GE586.out) | exact HB.out)) hb)
                       clear HO_3
                       clear HO_90
                       clear BK581
                       clear BK586
                       clear HB
                       have HO_3 := n0_
                       have HO_90 := n1_
                       have HO617 := n2_
                       have BK581 := n3_
                       have BK586 := n4_
                       have HB := n5_
                       clear n0_ n1_ n2_ n3_ n4_ n5_
                       clear hb ho90
                       refine hK.out _ _ ⟨(blk_cell BK581.out 0).trans rfl, (blk_cell BK581.out 1).trans rfl, (blk_cell BK581.out 2).trans rfl⟩ (fun hHeld => ?_)
                       clear hK K
                       refine norm_ (a' := ?_) ?_ ?_
                       rotate_left
                       ·show Act.put _ (some 101) _ = _
                        simp only [Act.put, lz1, lz2, lz3, i64_w, i32_w]
                        rfl
                       refine one_ (i := 1) (N := some 97) #[true, true, true, false, true, true, false, false, false] rfl rfl (one_of HT_.out (by kernel_rfl)) (by decide) (fun K hK => ?_)
                       refine Kd.R_lit_step Kd.string _ 9 ?hg (N := 97) ?hd (xs := ([] : List ByteArray)) (inner := []) (ok := fun _ => True) (okp := fun _ => True) ?hr ?hp (fun _ hk => hk) trivial (Below.refl _ _) (Nat.le_refl _) (by simp) ?_; (case hd => rfl); (case hg => rfl); (case hr => first | (go_simp; done) | (go_simp; rfl)); (case hp => exact (Reps.none _ _))
                       intro v610 w91 ho92 hb hg_ hnew_
                       clear hg_ hnew_
                       (first | rw [← Ny609.out] at ho92 | (simp only [Int.reduceToNat] at ho92; rw [← Ny609.out] at ho92))
                       have n0_ := Aside0.mk (Kd.R_elder' (by (with_reducible repeat (first | apply Kd.R_alloc | apply Kd.R_drewN | apply Kd.R_drew)); exact HO_3.out) (Kd.R_base ho92) hb)
                       have n1_ := Aside0.mk (Kd.R_elder' (by (with_reducible repeat (first | apply Kd.R_alloc | apply Kd.R_drewN | apply Kd.R_drew)); exact HO_90.out) (Kd.R_base ho92) hb)
                       have n2_ := Aside0.mk (Kd.R_elder' (by (with_reducible repeat (first | apply Kd.R_alloc | apply Kd.R_drewN | apply Kd.R_drew)); exact HO617.out) (Kd.R_base ho92) hb)
                       have n3_ := Aside0.mk (Kd.R_lower (Kd.R_new' (Kd.R_new' (Kd.R_new' ho92 (Kd.R_lt (by (with_reducible repeat (first | apply Kd.R_alloc | apply Kd.R_drewN | apply Kd.R_drew)); exact HO_3.out))) (Kd.R_lt (by (with_reducible repeat (first | apply Kd.R_alloc | apply Kd.R_drewN | apply Kd.R_drew)); exact HO_90.out))) (Kd.R_lt (by (with_reducible repeat (first | apply Kd.R_alloc | apply Kd.R_drewN | apply Kd.R_drew)); exact HO617.out))) (below_size (by repeat (first | (with_reducible first | exact HB.out | apply below_alloc | apply pw_below_drewN | apply below_drew1 | refine below_set ?_ GE581.out | refine below_set ?_ GE586.out) | exact HB.out))))
                       have n4_ := Aside0.mk (blk_below (g := gb581) (o := .cells #[.int .i64 t578, .int .i64 t579, .int .i64 t580] 28 (0, 0)) (by (with_reducible repeat (first | refine blk_drewN ?_ _ | refine blk_drew ?_ | refine blk_alloc ?_ _)); exact BK581.out) hb)
                       have n5_ := Aside0.mk (blk_below (g := gb586) (o := .cells #[.int .i64 t582, .int .i64 t583, .int .i64 t584, .int .i64 t585] 45 (0, 0)) (by (with_reducible repeat (first | refine blk_drewN ?_ _ | refine blk_drew ?_ | refine blk_alloc ?_ _)); exact BK586.out) hb)
                       have n6_ := Aside0.mk (below_step (by repeat (first | (with_reducible first | exact HB.out | apply below_alloc | apply pw_below_drewN | apply below_drew1 | refine below_set ?_ GE581.out | refine below_set ?_ GE586.out) | exact HB.out)) hb)
                       clear HO_3
                       clear HO_90
                       clear HO617
                       clear BK581
                       clear BK586
                       clear HB
                       have HO_3 := n0_
                       have HO_90 := n1_
                       have HO617 := n2_
                       have HO611 := n3_
                       have BK581 := n4_
                       have BK586 := n5_
                       have HB := n6_
                       clear n0_ n1_ n2_ n3_ n4_ n5_ n6_
                       clear hb ho92
                       refine hK.out _ _ ⟨(blk_cell BK581.out 0).trans rfl, (blk_cell BK581.out 1).trans rfl, (blk_cell BK581.out 2).trans rfl⟩ (fun hHeld => ?_)
                       clear hK K
                       refine norm_ (a' := ?_) ?_ ?_
                       rotate_left
                       ·show Act.put _ (some 97) _ = _
                        simp only [Act.put, lz1, lz2, lz3, i64_w, i32_w]
                        rfl
                       refine one_ (i := 3) (N := some 99) #[true, true, true, true, true, true, false, false, false] rfl rfl (one_of HT_.out (by kernel_rfl)) (by decide) (fun K hK => ?_)
                       refine Kd.R_append_rows_step Kd.string (w0 := w) w.heap.size (by rfl) (.tmp 97) (.tmp 98) 23 9 (.string ⟨#[]⟩) 16 rfl Try.underlying23 info9 rfl (by decide) (by omega) v610 y609 t575 _ _ _ (fun k_ => some k_ ≠ (.slice Ao12 t575.length co12 : Value).ownBlock ∧ some k_ ≠ (.slice (some ad608) t587.length co76 : Value).ownBlock ∧ some k_ ≠ (v616 : Value).ownBlock) (fun _ => False) rfl rfl ?aO ?aR (fun _ _ h => h) (fun _ h => h.elim) ?aF ?aB ?aS ?aL ?_
                       (case aR => repeat (first | exact (Kd.R_reads' HO_3.out).2.2 | (with_reducible refine Kd.C_alloc ?_ _) | (with_reducible refine Kd.C_drewN ?_ _) | (with_reducible refine Kd.C_drew ?_)))
                       (case aB => exact (by repeat (first | (with_reducible first | exact HB.out | apply below_alloc | apply pw_below_drewN | apply below_drew1 | refine below_set ?_ GE581.out | refine below_set ?_ GE586.out) | exact HB.out)))
                       (case aF => exact (fun k_ hk => ⟨Kd.fresh' (Kd.R_lt (by (with_reducible repeat (first | apply Kd.R_alloc | apply Kd.R_drewN | apply Kd.R_drew)); exact HO_3.out)) k_ hk, Kd.fresh' (Kd.R_lt (by (with_reducible repeat (first | apply Kd.R_alloc | apply Kd.R_drewN | apply Kd.R_drew)); exact HO_90.out)) k_ hk, Kd.fresh' (Kd.R_lt (by (with_reducible repeat (first | apply Kd.R_alloc | apply Kd.R_drewN | apply Kd.R_drew)); exact HO617.out)) k_ hk⟩))
                       (case aO => exact (by (with_reducible repeat (first | apply Kd.R_alloc | apply Kd.R_drewN | apply Kd.R_drew)); exact Kd.R_mono HO611.out (fun _ hk => ⟨hk.1.1.2, ⟨hk.1.2, hk.2⟩⟩)))
                       (case aS => exact (below_size (by repeat (first | (with_reducible first | exact HB.out | apply below_alloc | apply pw_below_drewN | apply below_drew1 | refine below_set ?_ GE581.out | refine below_set ?_ GE586.out) | exact HB.out))))
                       (case aL => have := LMc80.out; omega)
                       intro v613 w93 ho hb hg hat
                       rw [← Ny612.out] at ho
                       have n0_ := Aside0.mk (Kd.R_after (ok := (fun k_ => some k_ ≠ (.slice (some ad608) t587.length co76 : Value).ownBlock ∧ some k_ ≠ (v616 : Value).ownBlock)) (by (with_reducible repeat (first | apply Kd.R_alloc | apply Kd.R_drewN | apply Kd.R_drew)); exact HO_3.out) hg hat)
                       have n1_ := Aside0.mk (Kd.R_after (ok := (fun k_ => some k_ ≠ (.slice Ao12 t575.length co12 : Value).ownBlock ∧ some k_ ≠ (v616 : Value).ownBlock)) (by (with_reducible repeat (first | apply Kd.R_alloc | apply Kd.R_drewN | apply Kd.R_drew)); exact HO_90.out) hg hat)
                       have n2_ := Aside0.mk (blk_grown (g := gb581) (o := .cells #[.int .i64 t578, .int .i64 t579, .int .i64 t580] 28 (0, 0)) (by (with_reducible repeat (first | refine blk_drewN ?_ _ | refine blk_drew ?_ | refine blk_alloc ?_ _)); exact BK581.out) hg (Kd.R_ne HO611.out BK581.out (by decide)))
                       have n3_ := Aside0.mk (blk_grown (g := gb586) (o := .cells #[.int .i64 t582, .int .i64 t583, .int .i64 t584, .int .i64 t585] 45 (0, 0)) (by (with_reducible repeat (first | refine blk_drewN ?_ _ | refine blk_drew ?_ | refine blk_alloc ?_ _)); exact BK586.out) hg (Kd.R_ne HO611.out BK586.out (by decide)))
                       have n4_ := Aside0.mk (Kd.R_after (ok := (fun k_ => some k_ ≠ (.slice Ao12 t575.length co12 : Value).ownBlock ∧ some k_ ≠ (.slice (some ad608) t587.length co76 : Value).ownBlock)) (by (with_reducible repeat (first | apply Kd.R_alloc | apply Kd.R_drewN | apply Kd.R_drew)); exact Kd.R_mono HO617.out (fun _ hk => ⟨⟨hk.1.1.2, hk.1.2⟩, hk.2⟩)) hg hat)
                       have n5_ := Aside0.mk (hb)
                       have n6_ := Aside0.mk (ho)
                       clear HO_3
                       clear HO_90
                       clear BK581
                       clear BK586
                       clear HO617
                       clear HB
                       clear HO611
                       have HO_3 := n0_
                       have HO_90 := n1_
                       have BK581 := n2_
                       have BK586 := n3_
                       have HO617 := n4_
                       have HB := n5_
                       have HO614 := n6_
                       clear n0_ n1_ n2_ n3_ n4_ n5_ n6_
                       clear ho hb hg hat
                       refine hK.out _ _ ⟨(blk_cell BK581.out 0).trans rfl, (blk_cell BK581.out 1).trans rfl, (blk_cell BK581.out 2).trans rfl⟩ (fun hHeld => ?_)
                       clear hK K
                       refine norm_ (a' := ?_) ?_ ?_
                       rotate_left
                       ·show Act.put _ (some 99) _ = _
                        simp only [Act.put, lz1, lz2, lz3, i64_w, i32_w]
                        rfl
                       exact norm_ (by simp only [putAll, Act.put, List.setIfInBounds_toArray, List.set_cons_zero, List.set_cons_succ]) (hCont (v610, v613, v616) _ ⟨hHeld, (by (with_reducible repeat (first | apply Kd.R_alloc | apply Kd.R_drewN | apply Kd.R_drew)); exact Kd.R_mono HO614.out (fun _ hk => ⟨hk.2.2, ⟨hk.1, hk.2.1⟩⟩)), (by (with_reducible repeat (first | apply Kd.R_alloc | apply Kd.R_drewN | apply Kd.R_drew)); exact Kd.R_mono HO617.out (fun _ hk => ⟨hk.2, ⟨hk.1.1, hk.1.2⟩⟩)), (by (with_reducible repeat (first | apply Kd.R_alloc | apply Kd.R_drewN | apply Kd.R_drew)); exact Kd.R_mono HO_3.out (fun _ hk => ⟨hk.2, ⟨hk.1.2, hk.1.1⟩⟩)), (by (with_reducible repeat (first | apply Kd.R_alloc | apply Kd.R_drewN | apply Kd.R_drew)); exact Kd.R_mono HO_90.out (fun _ hk => ⟨hk.2, ⟨hk.1.2, hk.1.1⟩⟩)), (by (with_reducible repeat (first | refine blk_drewN ?_ _ | refine blk_drew ?_ | refine blk_alloc ?_ _)); exact BK581.out), (by (with_reducible repeat (first | refine blk_drewN ?_ _ | refine blk_drew ?_ | refine blk_alloc ?_ _)); exact BK586.out), (by repeat (first | (with_reducible first | exact HB.out | apply below_alloc | apply pw_below_drewN | apply below_drew1 | refine below_set ?_ GE581.out | refine below_set ?_ GE586.out) | exact HB.out))⟩)
                     rintro ⟨v610, v613, v616⟩ w94 ⟨hS_, h0_, h1_, h2_, h3_, h4_, h5_, h6_⟩
                     have n0_ : Aside0 (Kd.R Kd.string 9 w94 w.heap.size (fun k_ => some k_ ≠ (v616 : Value).ownBlock ∧ some k_ ≠ (.slice Ao12 t575.length co12 : Value).ownBlock ∧ some k_ ≠ (.slice (some ad608) t587.length co76 : Value).ownBlock) v613 y612) := ⟨h0_⟩
                     have n1_ : Aside0 (Kd.R Kd.string 9 w94 w.heap.size (fun k_ => some k_ ≠ (v613 : Value).ownBlock ∧ some k_ ≠ (.slice Ao12 t575.length co12 : Value).ownBlock ∧ some k_ ≠ (.slice (some ad608) t587.length co76 : Value).ownBlock) v616 y615) := ⟨h1_⟩
                     have n2_ : Aside0 (Kd.R Kd.string 9 w94 w.heap.size (fun k_ => some k_ ≠ (v613 : Value).ownBlock ∧ some k_ ≠ (v616 : Value).ownBlock ∧ some k_ ≠ (.slice (some ad608) t587.length co76 : Value).ownBlock) (.slice Ao12 t575.length co12) t575) := ⟨h2_⟩
                     have n3_ : Aside0 (Kd.R Kd.string 9 w94 w.heap.size (fun k_ => some k_ ≠ (v613 : Value).ownBlock ∧ some k_ ≠ (v616 : Value).ownBlock ∧ some k_ ≠ (.slice Ao12 t575.length co12 : Value).ownBlock) (.slice (some ad608) t587.length co76) t587) := ⟨h3_⟩
                     have n4_ : Aside0 (w94.heap[gb581]? = some (.cells #[.int .i64 t578, .int .i64 t579, .int .i64 t580] 28 (0, 0))) := ⟨h4_⟩
                     have n5_ : Aside0 (w94.heap[gb586]? = some (.cells #[.int .i64 t582, .int .i64 t583, .int .i64 t584, .int .i64 t585] 45 (0, 0))) := ⟨h5_⟩
                     have n6_ : Aside0 (Below w.heap.size w w94) := ⟨h6_⟩
                     clear HO_3
                     clear HO_90
                     clear BK581
                     clear BK586
                     clear HB
                     clear h0_ h1_ h2_ h3_ h4_ h5_ h6_
                     have HO614 := n0_
                     have HO617 := n1_
                     have HO_3 := n2_
                     have HO_90 := n3_
                     have BK581 := n4_
                     have BK586 := n5_
                     have HB := n6_
                     clear n0_ n1_ n2_ n3_ n4_ n5_ n6_
                     have hHeld : w94.cell? ⟨gb581, 0, none⟩ = some (.int .i64 t578) ∧ w94.cell? ⟨gb581, 1, none⟩ = some (.int .i64 t579) ∧ w94.cell? ⟨gb581, 2, none⟩ = some (.int .i64 t580) := hS_
                     obtain ⟨Ao96, co96, eo96⟩ := Kd.R_slice HO617.out
                     (first | subst eo96 | (injection eo96 with f1_ f2_ f3_; have f4_ := f1_.symm; have f5_ := f3_.symm; clear f1_ f2_ f3_; subst f4_; subst f5_))
                     refine norm_ (a' := ?_) ?_ ?_
                     rotate_left
                     ·simp only [putAll, Act.put, List.setIfInBounds_toArray, List.set_cons_zero, List.set_cons_succ]
                      rfl
                     refine one_ (i := 6) (N := some 102) #[true, true, true, true, true, true, true, false, false] rfl rfl (one_of HT_.out (by kernel_rfl)) (by decide) (fun K hK => ?_)
                     refine Kd.R_append_rows_step Kd.string (w0 := w) w.heap.size (by rfl) (.tmp 99) (.tmp 101) 23 9 (.string ⟨#[]⟩) 16 rfl Try.underlying23 info9 rfl (by decide) (by omega) v613 y612 y615 _ _ _ (fun k_ => some k_ ≠ (.slice Ao12 t575.length co12 : Value).ownBlock ∧ some k_ ≠ (.slice (some ad608) t587.length co76 : Value).ownBlock ∧ some k_ ≠ (.slice Ao96 y615.length co96 : Value).ownBlock) (fun _ => False) rfl rfl ?aO ?aR (fun _ _ h => h) (fun _ h => h.elim) ?aF ?aB ?aS ?aL ?_
                     (case aR => repeat (first | exact (Kd.R_reads' HO617.out).2.2 | (with_reducible refine Kd.C_alloc ?_ _) | (with_reducible refine Kd.C_drewN ?_ _) | (with_reducible refine Kd.C_drew ?_)))
                     (case aB => exact (by repeat (first | (with_reducible first | exact HB.out | apply below_alloc | apply pw_below_drewN | apply below_drew1 | refine below_set ?_ GE581.out | refine below_set ?_ GE586.out) | exact HB.out)))
                     (case aF => exact (fun k_ hk => ⟨Kd.fresh' (Kd.R_lt (by (with_reducible repeat (first | apply Kd.R_alloc | apply Kd.R_drewN | apply Kd.R_drew)); exact HO_3.out)) k_ hk, Kd.fresh' (Kd.R_lt (by (with_reducible repeat (first | apply Kd.R_alloc | apply Kd.R_drewN | apply Kd.R_drew)); exact HO_90.out)) k_ hk, Kd.fresh' (Kd.R_lt (by (with_reducible repeat (first | apply Kd.R_alloc | apply Kd.R_drewN | apply Kd.R_drew)); exact HO617.out)) k_ hk⟩))
                     (case aO => exact (by (with_reducible repeat (first | apply Kd.R_alloc | apply Kd.R_drewN | apply Kd.R_drew)); exact Kd.R_mono HO614.out (fun _ hk => ⟨hk.2.1, ⟨hk.2.2, hk.1⟩⟩)))
                     (case aS => exact (below_size (by repeat (first | (with_reducible first | exact HB.out | apply below_alloc | apply pw_below_drewN | apply below_drew1 | refine below_set ?_ GE581.out | refine below_set ?_ GE586.out) | exact HB.out))))
                     (case aL => have := LMc81.out; omega)
                     intro v619 w95 ho hb hg hat
                     rw [← Ny618.out] at ho
                     have n0_ := Aside0.mk (Kd.R_after (ok := (fun k_ => some k_ ≠ (.slice (some ad608) t587.length co76 : Value).ownBlock ∧ some k_ ≠ (.slice Ao96 y615.length co96 : Value).ownBlock)) (by (with_reducible repeat (first | apply Kd.R_alloc | apply Kd.R_drewN | apply Kd.R_drew)); exact Kd.R_mono HO_3.out (fun _ hk => ⟨⟨hk.2.2, hk.2.1⟩, hk.1⟩)) hg hat)
                     have n1_ := Aside0.mk (Kd.R_after (ok := (fun k_ => some k_ ≠ (.slice Ao12 t575.length co12 : Value).ownBlock ∧ some k_ ≠ (.slice Ao96 y615.length co96 : Value).ownBlock)) (by (with_reducible repeat (first | apply Kd.R_alloc | apply Kd.R_drewN | apply Kd.R_drew)); exact Kd.R_mono HO_90.out (fun _ hk => ⟨⟨hk.2.2, hk.2.1⟩, hk.1⟩)) hg hat)
                     have n2_ := Aside0.mk (blk_grown (g := gb581) (o := .cells #[.int .i64 t578, .int .i64 t579, .int .i64 t580] 28 (0, 0)) (by (with_reducible repeat (first | refine blk_drewN ?_ _ | refine blk_drew ?_ | refine blk_alloc ?_ _)); exact BK581.out) hg (Kd.R_ne HO614.out BK581.out (by decide)))
                     have n3_ := Aside0.mk (blk_grown (g := gb586) (o := .cells #[.int .i64 t582, .int .i64 t583, .int .i64 t584, .int .i64 t585] 45 (0, 0)) (by (with_reducible repeat (first | refine blk_drewN ?_ _ | refine blk_drew ?_ | refine blk_alloc ?_ _)); exact BK586.out) hg (Kd.R_ne HO614.out BK586.out (by decide)))
                     have n4_ := Aside0.mk (Kd.R_after (ok := (fun k_ => some k_ ≠ (.slice Ao12 t575.length co12 : Value).ownBlock ∧ some k_ ≠ (.slice (some ad608) t587.length co76 : Value).ownBlock)) (by (with_reducible repeat (first | apply Kd.R_alloc | apply Kd.R_drewN | apply Kd.R_drew)); exact Kd.R_mono HO617.out (fun _ hk => ⟨⟨hk.2.1, hk.2.2⟩, hk.1⟩)) hg hat)
                     have n5_ := Aside0.mk (hb)
                     have n6_ := Aside0.mk (ho)
                     clear HO_3
                     clear HO_90
                     clear BK581
                     clear BK586
                     clear HO617
                     clear HB
                     clear HO614
                     have HO_3 := n0_
                     have HO_90 := n1_
                     have BK581 := n2_
                     have BK586 := n3_
                     have HO617 := n4_
                     have HB := n5_
                     have HO620 := n6_
                     clear n0_ n1_ n2_ n3_ n4_ n5_ n6_
                     clear ho hb hg hat
                     obtain ⟨Ao97, co97, eo97⟩ := Kd.R_slice HO620.out
                     (first | subst eo97 | (injection eo97 with f1_ f2_ f3_; have f4_ := f1_.symm; have f5_ := f3_.symm; clear f1_ f2_ f3_; subst f4_; subst f5_))
                     refine hK.out _ _ ⟨(blk_cell BK581.out 0).trans rfl, (blk_cell BK581.out 1).trans rfl, (blk_cell BK581.out 2).trans rfl⟩ (fun hHeld => ?_)
                     clear hK K
                     refine norm_ (a' := ?_) ?_ ?_
                     rotate_left
                     ·show Act.put _ (some 102) _ = _
                      simp only [Act.put, lz1, lz2, lz3, i64_w, i32_w]
                      rfl
                     refine one_ (i := 7) (N := some 103) #[true, true, true, true, true, true, true, true, false] rfl rfl (one_of HT_.out (by kernel_rfl)) (by decide) (fun K hK => ?_)
                     refine goes_ Try.func34 (by kernel_rfl) rfl #[.agg #[.int .i64 t578, .int .i64 t579, .int .i64 t580], .slice Ao97 y618.length co97] (by rfl) rfl rfl (by (try simp only [List.map_toArray, List.map_cons, List.map_nil]); first | done | rfl | (simp only [List.length_drop, List.length_take]; rfl)) ?_
                     with_reducible refine (impl_HitsOf.calls k3 t578 t579 t580 _ _ y618 t621 _ ?side1 ?side2 A82.out).mono ?_
                     (case side1 => repeat (first | exact (Kd.R_reads' HO620.out).2.2 | (with_reducible refine Kd.C_alloc ?_ _) | (with_reducible refine Kd.C_drewN ?_ _) | (with_reducible refine Kd.C_drew ?_)))
                     (case side2 => exact (Kd.R_reads' HO620.out).2.1)
                     rintro e w98 ⟨v622, rfl, ho0, hb⟩
                     refine ⟨_, rfl, ?_⟩
                     have n0_ := Aside0.mk (Kd.R_below (by (with_reducible repeat (first | apply Kd.R_alloc | apply Kd.R_drewN | apply Kd.R_drew)); exact HO_3.out) hb)
                     have n1_ := Aside0.mk (Kd.R_below (by (with_reducible repeat (first | apply Kd.R_alloc | apply Kd.R_drewN | apply Kd.R_drew)); exact HO_90.out) hb)
                     have n2_ := Aside0.mk (Kd.R_below (by (with_reducible repeat (first | apply Kd.R_alloc | apply Kd.R_drewN | apply Kd.R_drew)); exact HO617.out) hb)
                     have n3_ := Aside0.mk (Kd.R_below (by (with_reducible repeat (first | apply Kd.R_alloc | apply Kd.R_drewN | apply Kd.R_drew)); exact HO620.out) hb)
                     have n4_ := Aside0.mk (Kd.R_lower ho0 (below_size (by repeat (first | (with_reducible first | exact HB.out | apply below_alloc | apply pw_below_drewN | apply below_drew1 | refine below_set ?_ GE581.out | refine below_set ?_ GE586.out) | exact HB.out))))
                     have n5_ := Aside0.mk (blk_below (g := gb581) (o := .cells #[.int .i64 t578, .int .i64 t579, .int .i64 t580] 28 (0, 0)) (by (with_reducible repeat (first | refine blk_drewN ?_ _ | refine blk_drew ?_ | refine blk_alloc ?_ _)); exact BK581.out) hb)
                     have n6_ := Aside0.mk (blk_below (g := gb586) (o := .cells #[.int .i64 t582, .int .i64 t583, .int .i64 t584, .int .i64 t585] 45 (0, 0)) (by (with_reducible repeat (first | refine blk_drewN ?_ _ | refine blk_drew ?_ | refine blk_alloc ?_ _)); exact BK586.out) hb)
                     have n7_ := Aside0.mk (below_step (by repeat (first | (with_reducible first | exact HB.out | apply below_alloc | apply pw_below_drewN | apply below_drew1 | refine below_set ?_ GE581.out | refine below_set ?_ GE586.out) | exact HB.out)) hb)
                     clear HO_3
                     clear HO_90
                     clear HO617
                     clear HO620
                     clear BK581
                     clear BK586
                     clear HB
                     have HO_3 := n0_
                     have HO_90 := n1_
                     have HO617 := n2_
                     have HO620 := n3_
                     have HO623 := n4_
                     have BK581 := n5_
                     have BK586 := n6_
                     have HB := n7_
                     clear n0_ n1_ n2_ n3_ n4_ n5_ n6_ n7_
                     (try clear hb)
                     (try clear hb2)
                     (try clear hk)
                     (try clear hi)
                     (try clear ho0)
                     refine hK.out _ _ ⟨(blk_cell BK581.out 0).trans rfl, (blk_cell BK581.out 1).trans rfl, (blk_cell BK581.out 2).trans rfl⟩ (fun hHeld => ?_)
                     clear hK K
                     refine norm_ (a' := ?_) ?_ ?_
                     rotate_left
                     ·show Act.put _ (some 103) _ = _
                      simp only [Act.put, lz1, lz2, lz3, i64_w, i32_w]
                      rfl
                     refine pure_ (i := 8) (N := some 10) (v := ?_) (a' := ?_) #[true, true, true, true, true, true, true, true, true] rfl rfl (any_of HT_.out (by kernel_rfl)) (fun _ _ _ h => h) (Or.inl ⟨by rfl, ?_⟩) ?_ ?_
                     rotate_left
                     ·intro w'
                      go_simp
                      with_reducible rfl
                     rotate_left
                     ·simp only [Act.put, lz1, lz2, lz3, i64_w, i32_w]
                      rfl
                     refine done_ (done_of HT_.out (by kernel_rfl)) ?_
                     obtain ⟨Ao99, co99, eo99⟩ := Kd.R_slice HO623.out
                     subst eo99
                     have p624 : 0 ≤ ((t575.length : Int) : Int) := of_decide_eq_true (by first | (with_reducible assumption) | assumption)
                     have q624 : (t575.length : Int) < (t621.length : Int) := of_decide_eq_true (by first | (with_reducible assumption) | assumption)
                     obtain ⟨ad624, e624, hx624_0⟩ := Kd.at_bool (Kd.R_reads' HO623.out).2.2 (t575.length : Int) p624 q624
                     (try rw [← Nbq86.out] at hx624_0)
                     cases e624
                     (try simp only [Go.IntWalk.toNatUp] at hx624_0)
                     replace p624 := eq_true p624
                     replace q624 := eq_true q624
                     try go_wp2
                     go_roundg k3
                     case measure => have := HJ6.out; have := HJ57.out; have := HK3.out; omega
                     case rel => exact ⟨(wrap64 (x92_3 + 1)), (by first | rfl | (simp; done) | (simp [*]; done)), H', ⟨by have := HJ6.out; have := HJ57.out; have := HK3.out; omega⟩, ⟨by (with_reducible repeat (first | apply Kd.R_alloc | apply Kd.R_drewN | apply Kd.R_drew)); exact Kd.R_mono HO_3.out (fun _ hk => hk.1.1)⟩, ⟨by (with_reducible repeat (first | apply Kd.R_alloc | apply Kd.R_drewN | apply Kd.R_drew)); exact Kd.R_mono HO_90.out (fun _ hk => hk.1.1)⟩, ⟨by (with_reducible repeat (first | refine blk_drewN ?_ _ | refine blk_drew ?_ | refine blk_alloc ?_ _)); exact BK581.out⟩, ⟨by (with_reducible repeat (first | refine blk_drewN ?_ _ | refine blk_drew ?_ | refine blk_alloc ?_ _)); exact BK586.out⟩, ⟨by repeat (first | (with_reducible first | exact HB.out | apply below_alloc | apply pw_below_drewN | apply below_drew1 | refine below_set ?_ GE581.out | refine below_set ?_ GE586.out) | exact HB.out)⟩⟩
                    ·replace c87 := Bool.eq_false_iff.mpr c87
                     subst c87
                     have H1 : (some false) = some true := by rw [if_neg (show ¬ (false = true) by decide)] at H; exact H
                     exact absurd H1 (by simp)
                   ·rw [if_neg c85] at H
                    exact absurd H (by simp)
                  ·rw [if_neg c84] at H
                   exact absurd H (by simp)
                 ·rw [if_neg c83] at H
                  exact absurd H (by simp)
                ·rw [if_neg c81] at H
                 exact absurd H (by simp)
               ·rw [if_neg c80] at H
                exact absurd H (by simp)
              ·rw [if_neg c79] at H
               exact absurd H (by simp)
             ·rw [if_neg c78] at H
              exact absurd H (by simp)
            ·rw [if_neg c77] at H
             have c77b0 : decide (x92_3 < (t587.length : Int)) = false := decide_eq_false c77
             clear c77
             replace H := Option.bind_eq_some_iff.mp H
             obtain ⟨t625, A1240, H⟩ := H
             replace H : ((spec_Rate.f t582 t583 t584 t585).bind fun t626 => (some (t625 == t626))) = some true := H
             have A124 := Aside0.mk A1240
             clear A1240
             replace H := Option.bind_eq_some_iff.mp H
             obtain ⟨t626, A1250, H⟩ := H
             replace H : (some (t625 == t626)) = some true := H
             have A125 := Aside0.mk A1250
             clear A1250
             have hr_ := Aside0.mk (Option.some.inj H)
             try go_wp2
             have n0_ := Aside0.mk (Kd.R_drew HO_3.out)
             have n1_ := Aside0.mk (Kd.R_drew HO_90.out)
             have n2_ := Aside0.mk (blk_drew BK581.out)
             have n3_ := Aside0.mk (blk_drew BK586.out)
             have n4_ := Aside0.mk (below_drew1 HB.out)
             clear HO_3
             clear HO_90
             clear BK581
             clear BK586
             clear HB
             have HO_3 := n0_
             have HO_90 := n1_
             have BK581 := n2_
             have BK586 := n3_
             have HB := n4_
             clear n0_ n1_ n2_ n3_ n4_
             refine start_ (n := 6) (S := fun w' => w'.cell? ⟨gb586, 0, none⟩ = some (.int .i64 t582) ∧ w'.cell? ⟨gb586, 1, none⟩ = some (.int .i64 t583) ∧ w'.cell? ⟨gb586, 2, none⟩ = some (.int .i64 t584) ∧ w'.cell? ⟨gb586, 3, none⟩ = some (.int .i64 t585)) (ds := []) #[false, false, false, false, false, false] (by kernel_rfl) rfl rfl ⟨(blk_cell BK586.out 0).trans rfl, (blk_cell BK586.out 1).trans rfl, (blk_cell BK586.out 2).trans rfl, (blk_cell BK586.out 3).trans rfl⟩ (fun hHeld => ?_)
             generalize wr.drew = w126 at HO_3 HO_90 BK581 BK586 HB hHeld ⊢
             refine take_ (i := 0) (N := some 119) (v := ?_) (a' := ?_) #[true, false, false, false, false, false] rfl rfl (by kernel_rfl) (fun _ _ _ h => h) (Or.inl ⟨by rfl, ?_⟩) hHeld ?_ ?_
             rotate_left
             ·rintro w' ⟨s0, s1, s2, s3⟩
              go_simp
              with_reducible rfl
             rotate_left
             ·simp only [Act.put, lz1, lz2, lz3, i64_w, i32_w]
              rfl
             refine take_ (i := 2) (N := some 121) (v := ?_) (a' := ?_) #[true, false, true, false, false, false] rfl rfl (by kernel_rfl) (fun _ _ _ h => h) (Or.inl ⟨by rfl, ?_⟩) hHeld ?_ ?_
             rotate_left
             ·rintro w' ⟨s0, s1, s2, s3⟩
              go_simp
              with_reducible rfl
             rotate_left
             ·simp only [Act.put, lz1, lz2, lz3, i64_w, i32_w]
              rfl
             refine one_ (i := 1) (N := some 120) #[true, true, true, false, false, false] rfl rfl (by kernel_rfl) (by decide) (fun K hK => ?_)
             refine goes_ Try.func35 (by kernel_rfl) rfl #[.agg #[.int .i64 t582, .int .i64 t583, .int .i64 t584, .int .i64 t585]] (by rfl) rfl rfl (by (try simp only [List.map_toArray, List.map_cons, List.map_nil]); first | done | rfl | (simp only [List.length_drop, List.length_take]; rfl)) ?_
             with_reducible refine (impl_Rate.calls t582 t583 t584 t585 t625 _ A124.out).mono ?_
             rintro e w127 ⟨rfl, hb⟩
             refine ⟨_, rfl, ?_⟩
             have n0_ := Aside0.mk (Kd.R_below (by (with_reducible repeat (first | apply Kd.R_alloc | apply Kd.R_drewN | apply Kd.R_drew)); exact HO_3.out) hb)
             have n1_ := Aside0.mk (Kd.R_below (by (with_reducible repeat (first | apply Kd.R_alloc | apply Kd.R_drewN | apply Kd.R_drew)); exact HO_90.out) hb)
             have n2_ := Aside0.mk (blk_below (g := gb581) (o := .cells #[.int .i64 t578, .int .i64 t579, .int .i64 t580] 28 (0, 0)) (by (with_reducible repeat (first | refine blk_drewN ?_ _ | refine blk_drew ?_ | refine blk_alloc ?_ _)); exact BK581.out) hb)
             have n3_ := Aside0.mk (blk_below (g := gb586) (o := .cells #[.int .i64 t582, .int .i64 t583, .int .i64 t584, .int .i64 t585] 45 (0, 0)) (by (with_reducible repeat (first | refine blk_drewN ?_ _ | refine blk_drew ?_ | refine blk_alloc ?_ _)); exact BK586.out) hb)
             have n4_ := Aside0.mk (below_step (by repeat (first | (with_reducible first | exact HB.out | apply below_alloc | apply pw_below_drewN | apply below_drew1 | refine below_set ?_ GE581.out | refine below_set ?_ GE586.out) | exact HB.out)) hb)
             clear HO_3
             clear HO_90
             clear BK581
             clear BK586
             clear HB
             have HO_3 := n0_
             have HO_90 := n1_
             have BK581 := n2_
             have BK586 := n3_
             have HB := n4_
             clear n0_ n1_ n2_ n3_ n4_
             (try clear hb)
             (try clear hb2)
             (try clear hk)
             (try clear hi)
             refine hK.out _ _ ⟨(blk_cell BK586.out 0).trans rfl, (blk_cell BK586.out 1).trans rfl, (blk_cell BK586.out 2).trans rfl, (blk_cell BK586.out 3).trans rfl⟩ (fun hHeld => ?_)
             clear hK K
             refine norm_ (a' := ?_) ?_ ?_
             rotate_left
             ·show Act.put _ (some 120) _ = _
              simp only [Act.put, lz1, lz2, lz3, i64_w, i32_w]
              rfl
             refine one_ (i := 3) (N := some 122) #[true, true, true, true, false, false] rfl rfl (by kernel_rfl) (by decide) (fun K hK => ?_)
             refine goes_ Try.func36 (by kernel_rfl) rfl #[.agg #[.int .i64 t582, .int .i64 t583, .int .i64 t584, .int .i64 t585]] (by rfl) rfl rfl (by (try simp only [List.map_toArray, List.map_cons, List.map_nil]); first | done | rfl | (simp only [List.length_drop, List.length_take]; rfl)) ?_
             with_reducible refine (spec_Rate.calls t582 t583 t584 t585 t626 _ A125.out).mono ?_
             rintro e w128 ⟨rfl, hb⟩
             refine ⟨_, rfl, ?_⟩
             have n0_ := Aside0.mk (Kd.R_below (by (with_reducible repeat (first | apply Kd.R_alloc | apply Kd.R_drewN | apply Kd.R_drew)); exact HO_3.out) hb)
             have n1_ := Aside0.mk (Kd.R_below (by (with_reducible repeat (first | apply Kd.R_alloc | apply Kd.R_drewN | apply Kd.R_drew)); exact HO_90.out) hb)
             have n2_ := Aside0.mk (blk_below (g := gb581) (o := .cells #[.int .i64 t578, .int .i64 t579, .int .i64 t580] 28 (0, 0)) (by (with_reducible repeat (first | refine blk_drewN ?_ _ | refine blk_drew ?_ | refine blk_alloc ?_ _)); exact BK581.out) hb)
             have n3_ := Aside0.mk (blk_below (g := gb586) (o := .cells #[.int .i64 t582, .int .i64 t583, .int .i64 t584, .int .i64 t585] 45 (0, 0)) (by (with_reducible repeat (first | refine blk_drewN ?_ _ | refine blk_drew ?_ | refine blk_alloc ?_ _)); exact BK586.out) hb)
             have n4_ := Aside0.mk (below_step (by repeat (first | (with_reducible first | exact HB.out | apply below_alloc | apply pw_below_drewN | apply below_drew1 | refine below_set ?_ GE581.out | refine below_set ?_ GE586.out) | exact HB.out)) hb)
             clear HO_3
             clear HO_90
             clear BK581
             clear BK586
             clear HB
             have HO_3 := n0_
             have HO_90 := n1_
             have BK581 := n2_
             have BK586 := n3_
             have HB := n4_
             clear n0_ n1_ n2_ n3_ n4_
             (try clear hb)
             (try clear hb2)
             (try clear hk)
             (try clear hi)
             refine hK.out _ _ ⟨(blk_cell BK586.out 0).trans rfl, (blk_cell BK586.out 1).trans rfl, (blk_cell BK586.out 2).trans rfl, (blk_cell BK586.out 3).trans rfl⟩ (fun hHeld => ?_)
             clear hK K
             refine norm_ (a' := ?_) ?_ ?_
             rotate_left
             ·show Act.put _ (some 122) _ = _
              simp only [Act.put, lz1, lz2, lz3, i64_w, i32_w]
              rfl
             refine pure_ (i := 4) (N := some 123) (v := ?_) (a' := ?_) #[true, true, true, true, true, false] rfl rfl (by kernel_rfl) (fun _ _ _ h => h) (Or.inl ⟨by rfl, ?_⟩) ?_ ?_
             rotate_left
             ·intro w'
              go_simp
              with_reducible rfl
             rotate_left
             ·simp only [Act.put, lz1, lz2, lz3, i64_w, i32_w]
              rfl
             refine pure_ (i := 5) (N := some 2) (v := ?_) (a' := ?_) #[true, true, true, true, true, true] rfl rfl (by kernel_rfl) (fun _ _ _ h => h) (Or.inl ⟨by rfl, ?_⟩) ?_ ?_
             rotate_left
             ·intro w'
              go_simp
              with_reducible rfl
             rotate_left
             ·simp only [Act.put, lz1, lz2, lz3, i64_w, i32_w]
              rfl
             refine done_ (by kernel_rfl) ?_
             try go_wp2
             go_ret
             exact ⟨by first | rfl | (have hz_ := hr_.out; simp [hz_]; done) | (have hz_ := hr_.out; simp at hz_; simp [hz_]; done) | (have hz_ := hr_.out; simp at hz_ ⊢; omega) | (simp [errW_none, errW_some] <;> rfl) | (simp [*, errW_none, errW_some] <;> rfl), by repeat (first | (with_reducible first | exact HB.out | apply below_alloc | apply pw_below_drewN | apply below_drew1 | refine below_set ?_ GE581.out | refine below_set ?_ GE586.out) | exact HB.out)⟩
      ·rw [if_neg c56] at H
       exact absurd H (by simp)
     ·rw [if_neg c55] at H
      exact absurd H (by simp)
def laws_FnCount.Pure : Prop := ∀ (l0 : List Int), l0.length ≤ maxLen → l0.length * 1 ≤ 140737488351232 → (∀ x ∈ l0, (Lit.int .u8 x).wf = true) → ∃ k, laws_FnCount.f k l0 = some true
theorem laws_FnCount.walk (P : laws_FnCount.Pure) (a0 : Option Addr) (len0 cap0 : Nat) (z0 : List Int) (w : World) (w0 : (a0 = none ∧ len0 = 0 ∧ cap0 = 0 ∧ z0 = []) ∨ ∃ x, a0 = some x ∧ len0 ≤ cap0 ∧ cap0 ≤ maxLen ∧ z0.length = cap0 ∧ (∀ i, i < z0.length → w.cell? (x.add i) = some (.int .u8 (z0.getD i 0))) ∧ ∀ n ∈ z0, (Lit.int .u8 n).wf = true) (y0 : len0 * 1 ≤ 140737488351232) :
  Calls Try.prog 6 #[.slice a0 len0 cap0] w fun e w' => e = .returned (.bool true) ∧ Below w.heap.size w w' := by
 obtain ⟨l0, rfl, hr0, hm0, hw0, hc0⟩ := ReadsInt.ofRowC w0
 obtain ⟨k, h⟩ := P l0 hm0 y0 hw0
 refine (laws_FnCount.calls k _ _ l0 w (Kd.C_of_reads (d := (0 : Int)) (h1 := fun _ => rfl) hr0) hc0 h).mono ?_
 rintro e w' ⟨rfl, hd⟩
 exact ⟨rfl, hd⟩
def spec_MakeNum.f (k : Nat) (l0 : List Int) (a1 : Int) : Option (Int) := (spec_l01New.f k l0).bind fun bt171 => ((spec_l01Below.f bt171.1 bt171.2.1 (wrap64 (bt171.2.2 + 777)) a1).bind fun bt175 => (some bt175.1))
theorem spec_MakeNum.mono : ∀ a0 a1 k, LeO (spec_MakeNum.f k a0 a1) (spec_MakeNum.f (k + 1) a0 a1) := by
  intro a0 a1 k
  unfold spec_MakeNum.f
  repeat' first
      | (with_reducible exact spec_l01New.mono _ _)
      | (with_reducible exact LeO.refl _)
      | (with_reducible exact LeO.none _)
      | (with_reducible refine LeO.ite ?_ ?_)
      | (with_reducible refine LeO.bind ?_ (fun _ => ?_))
      | exact spec_l01New.mono _ _
      | exact LeO.none _
      | refine LeO.ite ?_ ?_
      | refine LeO.bind ?_ (fun _ => ?_)
set_option maxHeartbeats 8000000 in
set_option maxRecDepth 100000 in
theorem spec_MakeNum.calls (k : Nat) (A0 : Option Addr) (c0 : Nat) (l0 : List Int) (a1 : Int) (r : Int) (w : World) (hr0 : Kd.C (Kd.int .u8) w A0 l0.length l0) (hc0 : l0.length ≤ c0) (h : spec_MakeNum.f k l0 a1 = some r) :
    Calls Try.prog 16 #[.slice A0 l0.length c0, .int .i64 a1] w fun e w' => e = .returned (.int .i64 r) ∧ Below w.heap.size w w' := by
  have HR0 := Aside0.mk hr0
  have HC0 := Aside0.mk hc0
  clear hr0 hc0
  have HB := Aside0.mk (Below.refl w.heap.size w)
  have H : ((spec_l01New.f k l0).bind fun bt171 => ((spec_l01Below.f bt171.1 bt171.2.1 (wrap64 (bt171.2.2 + 777)) a1).bind fun bt175 => (some bt175.1))) = some r := h
  clear h
  replace H := Option.bind_eq_some_iff.mp H
  obtain ⟨⟨t171, t172, t173⟩, A30, H⟩ := H
  replace H : ((spec_l01Below.f t171 t172 (wrap64 (t173 + 777)) a1).bind fun bt175 => (some bt175.1)) = some r := H
  have A3 := Aside0.mk A30
  clear A30
  replace H := Option.bind_eq_some_iff.mp H
  obtain ⟨⟨t175, t176, t177⟩, A40, H⟩ := H
  replace H : (some t175) = some r := H
  have A4 := Aside0.mk A40
  clear A40
  obtain rfl := Option.some.inj H
  go_enter Try.func16, Try.ntmps16
  go_wp2_with (first | ((with_reducible refine gate_callee (f := 72) rfl ?_); refine goesL_ (some 7) rfl rfl Try.func72 (by kernel_rfl) rfl #[.slice A0 l0.length c0] rfl (by (try simp only [List.map_toArray, List.map_cons, List.map_nil]); first | done | rfl | (simp only [List.length_drop, List.length_take]; rfl)) ?_; (with_reducible refine (spec_l01New.calls k _ _ l0 t171 t172 t173 w _ ?side1 ?side2 ?side3 A3.out).mono ?_); (case side1 => repeat (first | (with_reducible first | exact HB.out | apply below_alloc | apply pw_below_drewN | apply below_drew1) | exact HB.out)); (case side2 => exact HR0.out); (case side3 => exact HC0.out); rintro e w5 ⟨g174, rfl, hi, hb, hb2⟩; refine ⟨_, rfl, ?_⟩; have n0_ := Aside0.mk (hb); have n1_ := Aside0.mk (hi); clear HB; have HB := n0_; have HI174 := n1_; clear n0_ n1_; (try clear hb); (try clear hb2); (try clear hk); (try clear hi); obtain ⟨ASz6_0, cSz6_0, HGz6, hgz6, HSz6_0⟩ := HI174.out; have hcz6_0 := cellS110_0 HGz6; have hcz6_1 := cellS110_1 HGz6; have hcz6_2 := cellS110_2 HGz6; have hfz6_1 := blk_frozen HGz6 1; have hfz6_2 := blk_frozen HGz6 2; clear HGz6 hgz6) | ((with_reducible refine gate_callee (f := 74) rfl ?_); refine goesL_ (some 18) rfl rfl Try.func74 (by kernel_rfl) rfl #[.pointer (some ⟨g174, 0, none⟩), .int .i64 a1] rfl (by (try simp only [List.map_toArray, List.map_cons, List.map_nil]); first | done | rfl | (simp only [List.length_drop, List.length_take]; rfl)) ?_; (with_reducible refine (spec_l01Below.calls g174 t171 t172 (wrap64 (t173 + 777)) a1 t175 t176 t177 w _ ?side1 ?side2 A4.out).mono ?_); (case side1 => repeat (first | (with_reducible first | exact HI174.out | apply IsS110.alloc | apply IsS110.drewN | apply IsS110.drew | apply IsS110.set_1 | apply IsS110.set_2) | exact HI174.out)); (case side2 => repeat (first | (with_reducible first | exact HB.out | apply below_alloc | apply pw_below_drewN | apply below_drew1 | refine below_set ?_ (IsS110.ge HI174.out)) | exact HB.out)); rintro e w7 ⟨rfl, hi, hb, hk⟩; refine ⟨_, rfl, ?_⟩; have n0_ := Aside0.mk (hb); have n1_ := Aside0.mk (hi); clear HB; clear HI174; have HB := n0_; have HI174 := n1_; clear n0_ n1_; (try clear hb); (try clear hb2); (try clear hk); (try clear hi)))
  go_ret
  exact ⟨by first | rfl | (simp [errW_none, errW_some] <;> rfl) | (simp [*, errW_none, errW_some] <;> rfl), by repeat (first | (with_reducible first | exact HB.out | apply below_alloc | apply pw_below_drewN | apply below_drew1 | refine below_set ?_ (IsS110.ge HI174.out)) | exact HB.out)⟩
def slices_Index_string_string.l0 : Nat → List ByteArray → ByteArray → Int → Int → Option (Int)
  | 0, _, _, _, _ => none
  | k + 1, x0, x1, x7, x8 => if x8 < x7 then (if 0 ≤ x8 then (if x8 < (x0.length : Int) then (if x1.toList = (rdOf ByteArray.empty x0 x8).toList then (some x8) else (slices_Index_string_string.l0 k x0 x1 x7 (wrap64 (x8 + 1)))) else (none)) else (none)) else (some (-1))
def slices_Index_string_string.f (k : Nat) (l0 : List ByteArray) (a1 : ByteArray) : Option (Int) := slices_Index_string_string.l0 k l0 a1 (l0.length : Int) 0
theorem slices_Index_string_string.mono_l : ∀ k, (∀ y0 y1 y2 y3, LeO (slices_Index_string_string.l0 k y0 y1 y2 y3) (slices_Index_string_string.l0 (k + 1) y0 y1 y2 y3))
  | 0 => fun _ _ _ _ r h => by simp [slices_Index_string_string.l0] at h
  | k + 1 => by
    have ih0 := slices_Index_string_string.mono_l k
    · intro y0 y1 y2 y3
      unfold slices_Index_string_string.l0
      repeat' first
      | (with_reducible exact ih0 _ _ _ _)
      | (with_reducible exact LeO.refl _)
      | (with_reducible exact LeO.none _)
      | (with_reducible refine LeO.ite ?_ ?_)
      | (with_reducible refine LeO.bind ?_ (fun _ => ?_))
      | exact ih0 _ _ _ _
      | exact LeO.none _
      | refine LeO.ite ?_ ?_
      | refine LeO.bind ?_ (fun _ => ?_)
theorem slices_Index_string_string.mono : ∀ a0 a1 k, LeO (slices_Index_string_string.f k a0 a1) (slices_Index_string_string.f (k + 1) a0 a1) := by
  intro a0 a1 k
  have ih0 := slices_Index_string_string.mono_l k
  unfold slices_Index_string_string.f
  repeat' first
      | (with_reducible exact ih0 _ _ _ _)
      | (with_reducible exact LeO.refl _)
      | (with_reducible exact LeO.none _)
      | (with_reducible refine LeO.ite ?_ ?_)
      | (with_reducible refine LeO.bind ?_ (fun _ => ?_))
      | exact ih0 _ _ _ _
      | exact LeO.none _
      | refine LeO.ite ?_ ?_
      | refine LeO.bind ?_ (fun _ => ?_)
set_option maxHeartbeats 8000000 in
set_option maxRecDepth 100000 in
theorem slices_Index_string_string.calls (k : Nat) (A0 : Option Addr) (c0 : Nat) (l0 : List ByteArray) (a1 : ByteArray) (r : Int) (w : World) (hr0 : Kd.C Kd.string w A0 l0.length l0) (hc0 : l0.length ≤ c0) (h : slices_Index_string_string.f k l0 a1 = some r) :
    Calls Try.prog 133 #[.slice A0 l0.length c0, .string a1] w fun e w' => e = .returned (.int .i64 r) ∧ Drawn0 w w' := by
  have HR0 := Aside0.mk hr0
  have HC0 := Aside0.mk hc0
  clear hr0 hc0
  have H : (slices_Index_string_string.l0 k l0 a1 (l0.length : Int) 0) = some r := h
  clear h
  have H' := Aside0.mk H
  clear H
  go_enter Try.func133, Try.ntmps133
  go_wp2
  go_loopg [8] k (fun kq v8 w' => ∃ (x8_1 : Int), v8 = .int .i64 x8_1 ∧ Aside0 (slices_Index_string_string.l0 kq l0 a1 (l0.length : Int) x8_1 = some r) ∧ Aside0 (kq ≤ k) ∧ Drawn0 w w')
  case atStart => exact ⟨(0), (by first | rfl | (simp; done) | (simp [*]; done)), H', ⟨Nat.le_refl _⟩, by repeat (first | exact Drawn0.refl _ | apply Drawn0.step)⟩
  case round =>
    clear H'
    try clear c1
    try clear p2
    obtain ⟨x8_1, rfl, HA, HK1, ⟨m1, rfl⟩⟩ := hrel
    cases gk with
    | zero => exact absurd HA.out (by simp [slices_Index_string_string.l0])
    | succ k1 =>
      have H := HA.out
      clear HA
      simp only [slices_Index_string_string.l0] at H
      by_cases c3 : x8_1 < (l0.length : Int)
      · rw [if_pos c3] at H
        have c3b0 : decide (x8_1 < (l0.length : Int)) = true := decide_eq_true c3
        clear c3
        by_cases c4 : 0 ≤ x8_1
        · rw [if_pos c4] at H
          have c4b0 : decide (0 ≤ x8_1) = true := decide_eq_true c4
          clear c4
          by_cases c5 : x8_1 < (l0.length : Int)
          · rw [if_pos c5] at H
            have c5b0 : decide (x8_1 < (l0.length : Int)) = true := decide_eq_true c5
            clear c5
            by_cases c6 : a1.toList = (rdOf ByteArray.empty l0 x8_1).toList
            · rw [if_pos c6] at H
              have c6b0 : (a1.toList == (rdOf ByteArray.empty l0 x8_1).toList) = true := beq_iff_eq.mpr c6
              have c6b1 : (a1.toList != (rdOf ByteArray.empty l0 x8_1).toList) = false := bne_eq_false_iff_eq.mpr c6
              clear c6
              obtain rfl := Option.some.inj H
              have p101 : 0 ≤ (x8_1 : Int) := of_decide_eq_true (by first | (with_reducible assumption) | assumption)
              have q101 : x8_1 < (l0.length : Int) := of_decide_eq_true (by first | (with_reducible assumption) | assumption)
              obtain ⟨ad101, e101, hx101_0⟩ := Kd.at_string HR0.out x8_1 p101 q101
              cases e101
              replace p101 := eq_true p101
              replace q101 := eq_true q101
              go_wp2
              go_ret
              exact ⟨by first | rfl | (simp; done) | (simp [*]; done), by repeat (first | exact Drawn0.refl _ | apply Drawn0.step)⟩
            · rw [if_neg c6] at H
              have c6b0 : (a1.toList == (rdOf ByteArray.empty l0 x8_1).toList) = false := beq_eq_false_iff_ne.mpr c6
              have c6b1 : (a1.toList != (rdOf ByteArray.empty l0 x8_1).toList) = true := bne_iff_ne.mpr c6
              have H' := Aside0.mk H
              clear H
              have p101 : 0 ≤ (x8_1 : Int) := of_decide_eq_true (by first | (with_reducible assumption) | assumption)
              have q101 : x8_1 < (l0.length : Int) := of_decide_eq_true (by first | (with_reducible assumption) | assumption)
              obtain ⟨ad101, e101, hx101_0⟩ := Kd.at_string HR0.out x8_1 p101 q101
              cases e101
              replace p101 := eq_true p101
              replace q101 := eq_true q101
              go_wp2
              go_roundg k1
              case measure => have := HK1.out; omega
              case rel => exact ⟨(wrap64 (x8_1 + 1)), (by first | rfl | (simp; done) | (simp [*]; done)), H', ⟨by have := HK1.out; omega⟩, by repeat (first | exact Drawn0.refl _ | apply Drawn0.step)⟩
          · rw [if_neg c5] at H
            exact absurd H (by simp)
        · rw [if_neg c4] at H
          exact absurd H (by simp)
      · rw [if_neg c3] at H
        have c3b0 : decide (x8_1 < (l0.length : Int)) = false := decide_eq_false c3
        clear c3
        obtain rfl := Option.some.inj H
        go_wp2
        go_ret
        exact ⟨by first | rfl | (simp; done) | (simp [*]; done), by repeat (first | exact Drawn0.refl _ | apply Drawn0.step)⟩
def slices_Contains_string_string.f (k : Nat) (l0 : List ByteArray) (a1 : ByteArray) : Option (Bool) := (slices_Index_string_string.f k l0 a1).bind fun t102 => (some (decide (t102 ≥ 0)))
theorem slices_Contains_string_string.mono : ∀ a0 a1 k, LeO (slices_Contains_string_string.f k a0 a1) (slices_Contains_string_string.f (k + 1) a0 a1) := by
  intro a0 a1 k
  unfold slices_Contains_string_string.f
  repeat' first
      | (with_reducible exact slices_Index_string_string.mono _ _ _)
      | (with_reducible exact LeO.refl _)
      | (with_reducible exact LeO.none _)
      | (with_reducible refine LeO.ite ?_ ?_)
      | (with_reducible refine LeO.bind ?_ (fun _ => ?_))
      | exact slices_Index_string_string.mono _ _ _
      | exact LeO.none _
      | refine LeO.ite ?_ ?_
      | refine LeO.bind ?_ (fun _ => ?_)
set_option maxHeartbeats 8000000 in
set_option maxRecDepth 100000 in
theorem slices_Contains_string_string.calls (k : Nat) (A0 : Option Addr) (c0 : Nat) (l0 : List ByteArray) (a1 : ByteArray) (r : Bool) (w : World) (hr0 : Kd.C Kd.string w A0 l0.length l0) (hc0 : l0.length ≤ c0) (h : slices_Contains_string_string.f k l0 a1 = some r) :
    Calls Try.prog 71 #[.slice A0 l0.length c0, .string a1] w fun e w' => e = .returned (.bool r) ∧ Drawn0 w w' := by
  have HR0 := Aside0.mk hr0
  have HC0 := Aside0.mk hc0
  clear hr0 hc0
  have H : ((slices_Index_string_string.f k l0 a1).bind fun t102 => (some (decide (t102 ≥ 0)))) = some r := h
  clear h
  replace H := Option.bind_eq_some_iff.mp H
  obtain ⟨t102, A30, H⟩ := H
  replace H : (some (decide (t102 ≥ 0))) = some r := H
  have A3 := Aside0.mk A30
  clear A30
  obtain rfl := Option.some.inj H
  go_enter Try.func71, Try.ntmps71
  go_wp2_with (first | ((with_reducible refine gate_callee (f := 133) rfl ?_); refine goesL_ (some 7) rfl rfl Try.func133 (by kernel_rfl) rfl #[.slice A0 l0.length c0, .string a1] rfl (by (try simp only [List.map_toArray, List.map_cons, List.map_nil]); first | done | rfl | (simp only [List.length_drop, List.length_take]; rfl)) ?_; (with_reducible refine (slices_Index_string_string.calls k _ _ l0 a1 t102 _ ?side1 ?side2 A3.out).mono ?_); (case side1 => repeat (first | exact HR0.out | (with_reducible refine Kd.C_alloc ?_ _) | (with_reducible refine Kd.C_drewN ?_ _) | (with_reducible refine Kd.C_drew ?_))); (case side2 => exact HC0.out); rintro e w' ⟨rfl, ⟨nd, rfl⟩⟩; refine ⟨_, rfl, ?_⟩))
  go_ret
  exact ⟨by first | rfl | (simp; done) | (simp [*]; done), by repeat (first | exact Drawn0.refl _ | apply Drawn0.step)⟩
def impl_Distinct.l0 : Nat → List ByteArray → List ByteArray → Int → Int → Option (List ByteArray)
  | 0, _, _, _, _ => none
  | k + 1, x3, x7, x8, x9 => if x9 < x8 then (if 0 ≤ x9 then (if x9 < (x7.length : Int) then ((slices_Contains_string_string.f k x3 (rdOf ByteArray.empty x7 x9)).bind fun t107 => (if t107 = true then (impl_Distinct.l0 k x3 x7 x8 (wrap64 (x9 + 1))) else (if x3.length < 8796093022208 then (impl_Distinct.l0 k (x3 ++ [rdOf ByteArray.empty x7 x9]) x7 x8 (wrap64 (x9 + 1))) else (none)))) else (none)) else (none)) else (some x3)
def impl_Distinct.f (k : Nat) (l0 : List ByteArray) : Option (List ByteArray) := impl_Distinct.l0 k (([] : List ByteArray)) l0 (l0.length : Int) 0
theorem impl_Distinct.mono_l : ∀ k, (∀ y0 y1 y2 y3, LeO (impl_Distinct.l0 k y0 y1 y2 y3) (impl_Distinct.l0 (k + 1) y0 y1 y2 y3))
  | 0 => fun _ _ _ _ r h => by simp [impl_Distinct.l0] at h
  | k + 1 => by
    have ih0 := impl_Distinct.mono_l k
    · intro y0 y1 y2 y3
      unfold impl_Distinct.l0
      repeat' first
      | (with_reducible exact ih0 _ _ _ _)
      | (with_reducible exact slices_Contains_string_string.mono _ _ _)
      | (with_reducible exact LeO.refl _)
      | (with_reducible exact LeO.none _)
      | (with_reducible refine LeO.ite ?_ ?_)
      | (with_reducible refine LeO.bind ?_ (fun _ => ?_))
      | exact ih0 _ _ _ _
      | exact slices_Contains_string_string.mono _ _ _
      | exact LeO.none _
      | refine LeO.ite ?_ ?_
      | refine LeO.bind ?_ (fun _ => ?_)
theorem impl_Distinct.mono : ∀ a0 k, LeO (impl_Distinct.f k a0) (impl_Distinct.f (k + 1) a0) := by
  intro a0 k
  have ih0 := impl_Distinct.mono_l k
  unfold impl_Distinct.f
  repeat' first
      | (with_reducible exact ih0 _ _ _ _)
      | (with_reducible exact slices_Contains_string_string.mono _ _ _)
      | (with_reducible exact LeO.refl _)
      | (with_reducible exact LeO.none _)
      | (with_reducible refine LeO.ite ?_ ?_)
      | (with_reducible refine LeO.bind ?_ (fun _ => ?_))
      | exact ih0 _ _ _ _
      | exact slices_Contains_string_string.mono _ _ _
      | exact LeO.none _
      | refine LeO.ite ?_ ?_
      | refine LeO.bind ?_ (fun _ => ?_)
set_option maxHeartbeats 8000000 in
set_option maxRecDepth 100000 in
theorem impl_Distinct.calls (k : Nat) (A0 : Option Addr) (c0 : Nat) (l0 : List ByteArray) (r : List ByteArray) (w : World) (hr0 : Kd.C Kd.string w A0 l0.length l0) (hc0 : l0.length ≤ c0) (h : impl_Distinct.f k l0 = some r) :
    Calls Try.prog 14 #[.slice A0 l0.length c0] w fun e w' => ∃ v0_ : Value, e = .returned (v0_) ∧ Kd.R Kd.string 9 w' w.heap.size (fun _ => True) v0_ r ∧ Below w.heap.size w w' := by
  have HR0 := Aside0.mk hr0
  have HC0 := Aside0.mk hc0
  clear hr0 hc0
  have HB := Aside0.mk (Below.refl w.heap.size w)
  have H : (impl_Distinct.l0 k (([] : List ByteArray)) l0 (l0.length : Int) 0) = some r := h
  clear h
  obtain ⟨y103, hy103⟩ : ∃ y_ : List ByteArray, y_ = (([] : List ByteArray)) := ⟨_, rfl⟩
  replace H : (impl_Distinct.l0 k y103 l0 (l0.length : Int) 0) = some r := by first | (rw [hy103]; with_reducible exact H) | (have H2_ := (Option.bind_some _ _).symm.trans H; rw [hy103]; with_reducible exact H2_) | (have H2_ := (Option.bind_some _ _).symm.trans H; with_reducible exact H2_) | with_reducible exact H | (rw [hy103]; exact H) | exact H
  have Ny103 := Aside0.mk hy103
  clear hy103
  have H' := Aside0.mk H
  clear H
  go_enter Try.func14, Try.ntmps14
  go_wp2_with (first | ((with_reducible refine gate_dst (N := 6) rfl ?_); refine Kd.R_lit Kd.string _ 9 ?hg (N := 6) ?hd (xs := ([] : List ByteArray)) (inner := []) (ok := fun _ => True) (okp := fun _ => True) ?hr ?hp (fun _ hk => hk) trivial (Below.refl _ _) (Nat.le_refl _) (by simp) ?_; (case hd => rfl); (case hg => rfl); (case hr => first | (go_simp; done) | (go_simp; rfl)); (case hp => exact (Reps.none _ _)); intro v104 w2 ho3 hb hg_ hnew_; clear hg_ hnew_; (first | rw [← Ny103.out] at ho3 | (simp only [Int.reduceToNat] at ho3; rw [← Ny103.out] at ho3)); have n0_ := Aside0.mk (Kd.R_lower ho3 (below_size (by repeat (first | (with_reducible first | exact HB.out | apply below_alloc | apply pw_below_drewN | apply below_drew1) | exact HB.out)))); have n1_ := Aside0.mk (below_step (by repeat (first | (with_reducible first | exact HB.out | apply below_alloc | apply pw_below_drewN | apply below_drew1) | exact HB.out)) hb); clear HB; have HO105 := n0_; have HB := n1_; clear n0_ n1_; clear hb ho3))
  go_loopg [3, 9] k (fun kq v3 v9 w' => ∃ (x3_1 : List ByteArray) (x9_1 : Int), v9 = .int .i64 x9_1 ∧ Aside0 (impl_Distinct.l0 kq x3_1 l0 (l0.length : Int) x9_1 = some r) ∧ Aside0 (kq ≤ k) ∧ Aside0 (Kd.R Kd.string 9 w' w.heap.size (fun _ => True) v3 x3_1) ∧ Aside0 (Below w.heap.size w w'))
  case atStart => exact ⟨(y103), (0), (by first | rfl | (simp; done) | (simp [*]; done)), H', ⟨Nat.le_refl _⟩, ⟨by (with_reducible repeat (first | apply Kd.R_alloc | apply Kd.R_drewN | apply Kd.R_drew)); exact HO105.out⟩, ⟨by repeat (first | (with_reducible first | exact HB.out | apply below_alloc | apply pw_below_drewN | apply below_drew1) | exact HB.out)⟩⟩
  case round =>
    clear H'
    try clear c1
    try clear p2
    obtain ⟨x3_1, x9_1, rfl, HA, HK1, HO_3, HB⟩ := hrel
    cases gk with
    | zero => exact absurd HA.out (by simp [impl_Distinct.l0])
    | succ k1 =>
      have H := HA.out
      clear HA
      simp only [impl_Distinct.l0] at H
      by_cases c4 : x9_1 < (l0.length : Int)
      · rw [if_pos c4] at H
        have c4b0 : decide (x9_1 < (l0.length : Int)) = true := decide_eq_true c4
        clear c4
        by_cases c5 : 0 ≤ x9_1
        · rw [if_pos c5] at H
          have c5b0 : decide (0 ≤ x9_1) = true := decide_eq_true c5
          clear c5
          by_cases c6 : x9_1 < (l0.length : Int)
          · rw [if_pos c6] at H
            have c6b0 : decide (x9_1 < (l0.length : Int)) = true := decide_eq_true c6
            clear c6
            replace H := Option.bind_eq_some_iff.mp H
            obtain ⟨t107, A70, H⟩ := H
            replace H : (if t107 = true then (impl_Distinct.l0 k1 x3_1 l0 (l0.length : Int) (wrap64 (x9_1 + 1))) else (if x3_1.length < 8796093022208 then (impl_Distinct.l0 k1 (x3_1 ++ [rdOf ByteArray.empty l0 x9_1]) l0 (l0.length : Int) (wrap64 (x9_1 + 1))) else (none))) = some r := H
            have A7 := Aside0.mk A70
            clear A70
            by_cases c8 : t107 = true
            · subst c8
              have H1 : (impl_Distinct.l0 k1 x3_1 l0 (l0.length : Int) (wrap64 (x9_1 + 1))) = some r := by rw [if_pos rfl] at H; exact H
              clear H
              have H := H1
              clear H1
              have H' := Aside0.mk H
              clear H
              have p106 : 0 ≤ (x9_1 : Int) := of_decide_eq_true (by first | (with_reducible assumption) | assumption)
              have q106 : x9_1 < (l0.length : Int) := of_decide_eq_true (by first | (with_reducible assumption) | assumption)
              obtain ⟨ad106, e106, hx106_0⟩ := Kd.at_string HR0.out x9_1 p106 q106
              cases e106
              replace hx106_0 := (HB.out.cell (World.block_lt_of_cell? w _ hx106_0)).trans hx106_0
              replace p106 := eq_true p106
              replace q106 := eq_true q106
              obtain ⟨Ao9, co9, eo9⟩ := Kd.R_slice HO_3.out
              subst eo9
              go_wp2_with (first | ((with_reducible refine gate_callee (f := 71) rfl ?_); refine goesL_ (some 15) rfl rfl Try.func71 (by kernel_rfl) rfl #[.slice Ao9 x3_1.length co9, .string (rdOf ByteArray.empty l0 x9_1)] rfl (by (try simp only [List.map_toArray, List.map_cons, List.map_nil]); first | done | rfl | (simp only [List.length_drop, List.length_take]; rfl)) ?_; (with_reducible refine (slices_Contains_string_string.calls k1 _ _ x3_1 (rdOf ByteArray.empty l0 x9_1) true _ ?side1 ?side2 A7.out).mono ?_); (case side1 => repeat (first | exact (Kd.R_reads' HO_3.out).2.2 | (with_reducible refine Kd.C_alloc ?_ _) | (with_reducible refine Kd.C_drewN ?_ _) | (with_reducible refine Kd.C_drew ?_))); (case side2 => exact (Kd.R_reads' HO_3.out).2.1); rintro e w' ⟨rfl, ⟨nd, rfl⟩⟩; refine ⟨_, rfl, ?_⟩))
              go_roundg k1
              case measure => have := HK1.out; omega
              case rel => exact ⟨(x3_1), (wrap64 (x9_1 + 1)), (by first | rfl | (simp; done) | (simp [*]; done)), H', ⟨by have := HK1.out; omega⟩, ⟨by (with_reducible repeat (first | apply Kd.R_alloc | apply Kd.R_drewN | apply Kd.R_drew)); exact HO_3.out⟩, ⟨by repeat (first | (with_reducible first | exact HB.out | apply below_alloc | apply pw_below_drewN | apply below_drew1) | exact HB.out)⟩⟩
            · replace c8 := Bool.eq_false_iff.mpr c8
              subst c8
              have H1 : (if x3_1.length < 8796093022208 then (impl_Distinct.l0 k1 (x3_1 ++ [rdOf ByteArray.empty l0 x9_1]) l0 (l0.length : Int) (wrap64 (x9_1 + 1))) else (none)) = some r := by rw [if_neg (show ¬ (false = true) by decide)] at H; exact H
              clear H
              have H := H1
              clear H1
              by_cases c10 : x3_1.length < 8796093022208
              · rw [if_pos c10] at H
                have LMc10 := Aside0.mk c10
                clear c10
                obtain ⟨y108, hy108⟩ : ∃ y_ : List ByteArray, y_ = (x3_1 ++ [rdOf ByteArray.empty l0 x9_1]) := ⟨_, rfl⟩
                replace H : (impl_Distinct.l0 k1 y108 l0 (l0.length : Int) (wrap64 (x9_1 + 1))) = some r := by first | (rw [hy108]; with_reducible exact H) | (have H2_ := (Option.bind_some _ _).symm.trans H; rw [hy108]; with_reducible exact H2_) | (have H2_ := (Option.bind_some _ _).symm.trans H; with_reducible exact H2_) | with_reducible exact H | (rw [hy108]; exact H) | exact H
                have Ny108 := Aside0.mk hy108
                clear hy108
                have H' := Aside0.mk H
                clear H
                have p106 : 0 ≤ (x9_1 : Int) := of_decide_eq_true (by first | (with_reducible assumption) | assumption)
                have q106 : x9_1 < (l0.length : Int) := of_decide_eq_true (by first | (with_reducible assumption) | assumption)
                obtain ⟨ad106, e106, hx106_0⟩ := Kd.at_string HR0.out x9_1 p106 q106
                cases e106
                replace hx106_0 := (HB.out.cell (World.block_lt_of_cell? w _ hx106_0)).trans hx106_0
                replace p106 := eq_true p106
                replace q106 := eq_true q106
                obtain ⟨Ao11, co11, eo11⟩ := Kd.R_slice HO_3.out
                subst eo11
                go_wp2_with (first | ((with_reducible refine gate_callee (f := 71) rfl ?_); refine goesL_ (some 15) rfl rfl Try.func71 (by kernel_rfl) rfl #[.slice Ao11 x3_1.length co11, .string (rdOf ByteArray.empty l0 x9_1)] rfl (by (try simp only [List.map_toArray, List.map_cons, List.map_nil]); first | done | rfl | (simp only [List.length_drop, List.length_take]; rfl)) ?_; (with_reducible refine (slices_Contains_string_string.calls k1 _ _ x3_1 (rdOf ByteArray.empty l0 x9_1) false _ ?side1 ?side2 A7.out).mono ?_); (case side1 => repeat (first | exact (Kd.R_reads' HO_3.out).2.2 | (with_reducible refine Kd.C_alloc ?_ _) | (with_reducible refine Kd.C_drewN ?_ _) | (with_reducible refine Kd.C_drew ?_))); (case side2 => exact (Kd.R_reads' HO_3.out).2.1); rintro e w' ⟨rfl, ⟨nd, rfl⟩⟩; refine ⟨_, rfl, ?_⟩) | ((with_reducible refine gate_builtin (b := .append) (xs := #[.tmp 17, .tmp 19]) rfl ?_); at_builtin; refine Kd.R_append Kd.string (w0 := w) w.heap.size rfl (.tmp 17) (.tmp 19) 23 9 (.string ⟨#[]⟩) 16 rfl Try.underlying23 info9 rfl (by decide) (by omega) (.slice Ao11 x3_1.length co11) x3_1 (rdOf ByteArray.empty l0 x9_1) [.string (rdOf ByteArray.empty l0 x9_1)] (fun _ => True) (fun _ => False) rfl rfl ?aP (fun _ hk => hk.elim) ?aF ?aO ?aB ?aS ?aL ?_; (case aP => exact rfl); (case aB => exact (by repeat (first | (with_reducible first | exact HB.out | apply below_alloc | apply pw_below_drewN | apply below_drew1) | exact HB.out))); (case aF => exact (fun _ _ => trivial)); (case aO => exact (by (with_reducible repeat (first | apply Kd.R_alloc | apply Kd.R_drewN | apply Kd.R_drew)); exact HO_3.out)); (case aS => exact (below_size (by repeat (first | (with_reducible first | exact HB.out | apply below_alloc | apply pw_below_drewN | apply below_drew1) | exact HB.out)))); (case aL => have := LMc10.out; omega); intro v109 w12 ho hb hg hat; rw [← Ny108.out] at ho; have n0_ := Aside0.mk (hb); have n1_ := Aside0.mk (ho); clear HB; clear HO_3; have HB := n0_; have HO110 := n1_; clear n0_ n1_; clear ho hb hg hat))
                go_roundg k1
                case measure => have := HK1.out; omega
                case rel => exact ⟨(y108), (wrap64 (x9_1 + 1)), (by first | rfl | (simp; done) | (simp [*]; done)), H', ⟨by have := HK1.out; omega⟩, ⟨by (with_reducible repeat (first | apply Kd.R_alloc | apply Kd.R_drewN | apply Kd.R_drew)); exact HO110.out⟩, ⟨by repeat (first | (with_reducible first | exact HB.out | apply below_alloc | apply pw_below_drewN | apply below_drew1) | exact HB.out)⟩⟩
              · rw [if_neg c10] at H
                exact absurd H (by simp)
          · rw [if_neg c6] at H
            exact absurd H (by simp)
        · rw [if_neg c5] at H
          exact absurd H (by simp)
      · rw [if_neg c4] at H
        have c4b0 : decide (x9_1 < (l0.length : Int)) = false := decide_eq_false c4
        clear c4
        obtain rfl := Option.some.inj H
        go_wp2
        go_ret
        exact ⟨_, by first | rfl | (simp [errW_none, errW_some] <;> rfl) | (simp [*, errW_none, errW_some] <;> rfl), by (with_reducible repeat (first | apply Kd.R_alloc | apply Kd.R_drewN | apply Kd.R_drew)); exact HO_3.out, by repeat (first | (with_reducible first | exact HB.out | apply below_alloc | apply pw_below_drewN | apply below_drew1) | exact HB.out)⟩
def laws_sameTexts.l0 : Nat → List ByteArray → List ByteArray → Int → Int → Option (Bool)
  | 0, _, _, _, _ => none
  | k + 1, x0, x1, x12, x13 => if x13 < x12 then (if 0 ≤ x13 then (if x13 < (x0.length : Int) then (if x13 < (x1.length : Int) then (if (rdOf ByteArray.empty x0 x13).toList = (rdOf ByteArray.empty x1 x13).toList then (laws_sameTexts.l0 k x0 x1 x12 (wrap64 (x13 + 1))) else (some false)) else (none)) else (none)) else (none)) else (some true)
def laws_sameTexts.f (k : Nat) (l0 : List ByteArray) (l1 : List ByteArray) : Option (Bool) := if (l0.length : Int) = (l1.length : Int) then (laws_sameTexts.l0 k l0 l1 (l0.length : Int) 0) else (some false)
theorem laws_sameTexts.mono_l : ∀ k, (∀ y0 y1 y2 y3, LeO (laws_sameTexts.l0 k y0 y1 y2 y3) (laws_sameTexts.l0 (k + 1) y0 y1 y2 y3))
  | 0 => fun _ _ _ _ r h => by simp [laws_sameTexts.l0] at h
  | k + 1 => by
    have ih0 := laws_sameTexts.mono_l k
    · intro y0 y1 y2 y3
      unfold laws_sameTexts.l0
      repeat' first
      | (with_reducible exact ih0 _ _ _ _)
      | (with_reducible exact LeO.refl _)
      | (with_reducible exact LeO.none _)
      | (with_reducible refine LeO.ite ?_ ?_)
      | (with_reducible refine LeO.bind ?_ (fun _ => ?_))
      | exact ih0 _ _ _ _
      | exact LeO.none _
      | refine LeO.ite ?_ ?_
      | refine LeO.bind ?_ (fun _ => ?_)
theorem laws_sameTexts.mono : ∀ a0 a1 k, LeO (laws_sameTexts.f k a0 a1) (laws_sameTexts.f (k + 1) a0 a1) := by
  intro a0 a1 k
  have ih0 := laws_sameTexts.mono_l k
  unfold laws_sameTexts.f
  repeat' first
      | (with_reducible exact ih0 _ _ _ _)
      | (with_reducible exact LeO.refl _)
      | (with_reducible exact LeO.none _)
      | (with_reducible refine LeO.ite ?_ ?_)
      | (with_reducible refine LeO.bind ?_ (fun _ => ?_))
      | exact ih0 _ _ _ _
      | exact LeO.none _
      | refine LeO.ite ?_ ?_
      | refine LeO.bind ?_ (fun _ => ?_)
set_option maxHeartbeats 8000000 in
set_option maxRecDepth 100000 in
theorem laws_sameTexts.calls (k : Nat) (A0 : Option Addr) (c0 : Nat) (l0 : List ByteArray) (A1 : Option Addr) (c1 : Nat) (l1 : List ByteArray) (r : Bool) (w : World) (hr0 : Kd.C Kd.string w A0 l0.length l0) (hc0 : l0.length ≤ c0) (hr1 : Kd.C Kd.string w A1 l1.length l1) (hc1 : l1.length ≤ c1) (h : laws_sameTexts.f k l0 l1 = some r) :
    Calls Try.prog 18 #[.slice A0 l0.length c0, .slice A1 l1.length c1] w fun e w' => e = .returned (.bool r) ∧ Drawn0 w w' := by
  have HR0 := Aside0.mk hr0
  have HC0 := Aside0.mk hc0
  clear hr0 hc0
  have HR1 := Aside0.mk hr1
  have HC1 := Aside0.mk hc1
  clear hr1 hc1
  have H : (if (l0.length : Int) = (l1.length : Int) then (laws_sameTexts.l0 k l0 l1 (l0.length : Int) 0) else (some false)) = some r := h
  clear h
  by_cases c3 : (l0.length : Int) = (l1.length : Int)
  · rw [if_pos c3] at H
    have c3b0 : ((l0.length : Int) == (l1.length : Int)) = true := beq_iff_eq.mpr c3
    have c3b1 : ((l0.length : Int) != (l1.length : Int)) = false := bne_eq_false_iff_eq.mpr c3
    have c3b2 : (l0.length == l1.length) = true := by first | simpa using c3 | (simp at c3 ⊢; omega)
    clear c3
    have H' := Aside0.mk H
    clear H
    go_enter Try.func18, Try.ntmps18
    go_wp2
    repeat (go_quiet (fail); try go_wp2)
    go_loopg [13] k (fun kq v13 w' => ∃ (x13_1 : Int), v13 = .int .i64 x13_1 ∧ Aside0 (laws_sameTexts.l0 kq l0 l1 (l0.length : Int) x13_1 = some r) ∧ Aside0 (kq ≤ k) ∧ Drawn0 w w')
    case atStart => exact ⟨(0), (by first | rfl | (simp; done) | (simp [*]; done)), H', ⟨Nat.le_refl _⟩, by repeat (first | exact Drawn0.refl _ | apply Drawn0.step)⟩
    case round =>
      clear H'
      try clear c1
      try clear p2
      try clear c3
      try clear c3b0
      try clear c3b1
      try clear c3b2
      obtain ⟨x13_1, rfl, HA, HK1, ⟨m1, rfl⟩⟩ := hrel
      cases gk with
      | zero => exact absurd HA.out (by simp [laws_sameTexts.l0])
      | succ k1 =>
        have H := HA.out
        clear HA
        simp only [laws_sameTexts.l0] at H
        by_cases c4 : x13_1 < (l0.length : Int)
        · rw [if_pos c4] at H
          have c4b0 : decide (x13_1 < (l0.length : Int)) = true := decide_eq_true c4
          clear c4
          by_cases c5 : 0 ≤ x13_1
          · rw [if_pos c5] at H
            have c5b0 : decide (0 ≤ x13_1) = true := decide_eq_true c5
            clear c5
            by_cases c6 : x13_1 < (l0.length : Int)
            · rw [if_pos c6] at H
              have c6b0 : decide (x13_1 < (l0.length : Int)) = true := decide_eq_true c6
              clear c6
              by_cases c7 : x13_1 < (l1.length : Int)
              · rw [if_pos c7] at H
                have c7b0 : decide (x13_1 < (l1.length : Int)) = true := decide_eq_true c7
                clear c7
                by_cases c8 : (rdOf ByteArray.empty l0 x13_1).toList = (rdOf ByteArray.empty l1 x13_1).toList
                · rw [if_pos c8] at H
                  have c8b0 : ((rdOf ByteArray.empty l0 x13_1).toList == (rdOf ByteArray.empty l1 x13_1).toList) = true := beq_iff_eq.mpr c8
                  have c8b1 : ((rdOf ByteArray.empty l0 x13_1).toList != (rdOf ByteArray.empty l1 x13_1).toList) = false := bne_eq_false_iff_eq.mpr c8
                  clear c8
                  have H' := Aside0.mk H
                  clear H
                  have p231 : 0 ≤ (x13_1 : Int) := of_decide_eq_true (by first | (with_reducible assumption) | assumption)
                  have q231 : x13_1 < (l0.length : Int) := of_decide_eq_true (by first | (with_reducible assumption) | assumption)
                  obtain ⟨ad231, e231, hx231_0⟩ := Kd.at_string HR0.out x13_1 p231 q231
                  cases e231
                  replace p231 := eq_true p231
                  replace q231 := eq_true q231
                  have p232 : 0 ≤ (x13_1 : Int) := of_decide_eq_true (by first | (with_reducible assumption) | assumption)
                  have q232 : x13_1 < (l1.length : Int) := of_decide_eq_true (by first | (with_reducible assumption) | assumption)
                  obtain ⟨ad232, e232, hx232_0⟩ := Kd.at_string HR1.out x13_1 p232 q232
                  cases e232
                  replace p232 := eq_true p232
                  replace q232 := eq_true q232
                  go_wp2
                  repeat (go_quiet (fail); try go_wp2)
                  go_roundg k1
                  case measure => have := HK1.out; omega
                  case rel => exact ⟨(wrap64 (x13_1 + 1)), (by first | rfl | (simp; done) | (simp [*]; done)), H', ⟨by have := HK1.out; omega⟩, by repeat (first | exact Drawn0.refl _ | apply Drawn0.step)⟩
                · rw [if_neg c8] at H
                  have c8b0 : ((rdOf ByteArray.empty l0 x13_1).toList == (rdOf ByteArray.empty l1 x13_1).toList) = false := beq_eq_false_iff_ne.mpr c8
                  have c8b1 : ((rdOf ByteArray.empty l0 x13_1).toList != (rdOf ByteArray.empty l1 x13_1).toList) = true := bne_iff_ne.mpr c8
                  obtain rfl := Option.some.inj H
                  have p231 : 0 ≤ (x13_1 : Int) := of_decide_eq_true (by first | (with_reducible assumption) | assumption)
                  have q231 : x13_1 < (l0.length : Int) := of_decide_eq_true (by first | (with_reducible assumption) | assumption)
                  obtain ⟨ad231, e231, hx231_0⟩ := Kd.at_string HR0.out x13_1 p231 q231
                  cases e231
                  replace p231 := eq_true p231
                  replace q231 := eq_true q231
                  have p232 : 0 ≤ (x13_1 : Int) := of_decide_eq_true (by first | (with_reducible assumption) | assumption)
                  have q232 : x13_1 < (l1.length : Int) := of_decide_eq_true (by first | (with_reducible assumption) | assumption)
                  obtain ⟨ad232, e232, hx232_0⟩ := Kd.at_string HR1.out x13_1 p232 q232
                  cases e232
                  replace p232 := eq_true p232
                  replace q232 := eq_true q232
                  go_wp2
                  repeat (go_quiet (fail); try go_wp2)
                  go_ret
                  exact ⟨by first | rfl | (simp; done) | (simp [*]; done), by repeat (first | exact Drawn0.refl _ | apply Drawn0.step)⟩
              · rw [if_neg c7] at H
                exact absurd H (by simp)
            · rw [if_neg c6] at H
              exact absurd H (by simp)
          · rw [if_neg c5] at H
            exact absurd H (by simp)
        · rw [if_neg c4] at H
          have c4b0 : decide (x13_1 < (l0.length : Int)) = false := decide_eq_false c4
          clear c4
          obtain rfl := Option.some.inj H
          go_wp2
          repeat (go_quiet (fail); try go_wp2)
          go_ret
          exact ⟨by first | rfl | (simp; done) | (simp [*]; done), by repeat (first | exact Drawn0.refl _ | apply Drawn0.step)⟩
  · rw [if_neg c3] at H
    have c3b0 : ((l0.length : Int) == (l1.length : Int)) = false := beq_eq_false_iff_ne.mpr c3
    have c3b1 : ((l0.length : Int) != (l1.length : Int)) = true := bne_iff_ne.mpr c3
    have c3b2 : (l0.length == l1.length) = false := by first | simpa using c3 | (simp at c3 ⊢; omega)
    obtain rfl := Option.some.inj H
    go_enter Try.func18, Try.ntmps18
    go_wp2
    repeat (go_quiet (fail); try go_wp2)
    go_ret
    exact ⟨by first | rfl | (simp; done) | (simp [*]; done), by repeat (first | exact Drawn0.refl _ | apply Drawn0.step)⟩
end Go.Proofs.Ytkaahabgbngodaa.Core
end
