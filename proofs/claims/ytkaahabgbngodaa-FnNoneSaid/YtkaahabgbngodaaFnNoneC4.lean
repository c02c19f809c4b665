/- Contracts of the program's functions as Lean functions, for FnNone, part 4 (printed by wip/mkprint.py over the kit's print.py; what that refuses is written by hand in wip/manual). -/
import Derived.Test.YtkaahabgbngodaaFnNoneW1
import Derived.Test.YtkaahabgbngodaaFnNoneC1
import Derived.Test.YtkaahabgbngodaaFnNoneC2
import Derived.Test.YtkaahabgbngodaaFnNoneC3
import Derived.Deep.RegionLaw

section
namespace Go.Proofs.Ytkaahabgbngodaa.Core
open Go.RowKit Go.Proofs.YtkaahabgbngodaaW.PrintWords Go.Proofs.YtkaahabgbngodaaW.PrintLast Go.Proofs.YtkaahabgbngodaaW.PrintMore
attribute [local go_sem] max2_int min2_int max_two min_two max_three min_three max_four min_four
set_option linter.unusedVariables false
set_option linter.unusedSimpArgs false
open List renaming setIfInBounds_toArray → lz1, set_cons_zero → lz2, set_cons_succ → lz3
def evLoop (k : Nat) (cp mo : Int) : Nat → List S120 → List S120 → List Int → List ByteArray → Option (List S120 × List S120 × List Int × List ByteArray)
  | 0, _, _, _, _ => none
  | n + 1, s, m, gh, gone => if cp ≤ (s.length : Int) + (m.length : Int) then (goEvict k cp mo s m gh).bind fun r => evLoop k cp mo n r.1 r.2.1 r.2.2.1 (gone ++ [r.2.2.2.1]) else some (s, m, gh, gone)
theorem evLoop_mono (k : Nat) (cp mo : Int) : ∀ (n : Nat) (s m : List S120) (gh : List Int) (gone : List ByteArray), LeO (evLoop k cp mo n s m gh gone) (evLoop (k + 1) cp mo n s m gh gone)
  | 0, _, _, _, _ => LeO.refl _
  | n + 1, s, m, gh, gone => by
    unfold evLoop
    exact LeO.ite (LeO.bind (goEvict_mono k cp mo s m gh) (fun _ => evLoop_mono k cp mo n _ _ _ _)) (LeO.refl _)
def impl_Put.f (k : Nat) (a0_0 a0_1 : Int) (l0_2 l0_3 : List S120) (l0_4 : List Int) (a1 a2 : ByteArray) : Option (Int × Int × List S120 × List S120 × List Int × List ByteArray × Bool) :=
  (impl_ThreeOk.f k a0_0 a0_1 l0_2 l0_3 l0_4).bind fun ok =>
    if ok = true then (impl_ItemOk.f k a1 a2 0).bind fun ok2 =>
      if ok2 = true then
        (if 0 ≤ ixOf l0_2 a1 then some (a0_0, a0_1, l0_2.set (ixOf l0_2 a1).toNat ⟨(rd_T120 l0_2 (ixOf l0_2 a1)).f0, a2, (bump (rd_T120 l0_2 (ixOf l0_2 a1))).f2⟩, l0_3, l0_4, [], true)
         else if 0 ≤ ixOf l0_3 a1 then some (a0_0, a0_1, l0_2, l0_3.set (ixOf l0_3 a1).toNat ⟨(rd_T120 l0_3 (ixOf l0_3 a1)).f0, a2, (bump (rd_T120 l0_3 (ixOf l0_3 a1))).f2⟩, l0_4, [], true)
         else (evLoop k a0_0 a0_1 3 l0_2 l0_3 l0_4 []).bind fun q => (impl_Hash.f k a1).bind fun h =>
           if h ∈ q.2.2.1 then some (a0_0, a0_1, q.1, q.2.1 ++ [⟨a1, a2, 0⟩], q.2.2.1.filter (fun x => x != h), q.2.2.2, true)
           else some (a0_0, a0_1, q.1 ++ [⟨a1, a2, 0⟩], q.2.1, q.2.2.1, q.2.2.2, true))
      else some (0, 0, [], [], [], [], false)
    else some (0, 0, [], [], [], [], false)
theorem impl_Put.mono : ∀ a0 a1 a2 a3 a4 a5 a6 k, LeO (impl_Put.f k a0 a1 a2 a3 a4 a5 a6) (impl_Put.f (k + 1) a0 a1 a2 a3 a4 a5 a6) := by
  intro a0 a1 a2 a3 a4 a5 a6 k
  unfold impl_Put.f
  exact LeO.bind (impl_ThreeOk.mono _ _ _ _ _ _) (fun _ => LeO.ite (LeO.bind (impl_ItemOk.mono _ _ _ _) (fun _ => LeO.ite (LeO.ite (LeO.refl _) (LeO.ite (LeO.refl _) (LeO.bind (evLoop_mono _ _ _ _ _ _ _ _) (fun _ => LeO.bind (impl_Hash.mono _ _) (fun _ => LeO.refl _))))) (LeO.refl _))) (LeO.refl _))
theorem ThreeOk_true {k : Nat} {a0_0 a0_1 : Int} {l0_2 l0_3 : List S120} {l0_4 : List Int} (h : impl_ThreeOk.f k a0_0 a0_1 l0_2 l0_3 l0_4 = some true) : 1 ≤ a0_0 ∧ a0_0 ≤ 60 ∧ 1 ≤ a0_1 ∧ a0_1 ≤ a0_0 ∧ (l0_2.length : Int) + l0_3.length ≤ a0_0 ∧ (l0_4.length : Int) ≤ 60 := by
  unfold impl_ThreeOk.f at h
  by_cases hl : l0_2.length < 1000000 ∧ l0_3.length < 1000000 ∧ l0_4.length < 1000000
  · rw [if_pos hl] at h
    by_cases h1 : 1 ≤ a0_0 ∧ a0_0 ≤ 60
    · rw [if_pos h1] at h
      by_cases h2 : 1 ≤ a0_1 ∧ a0_1 ≤ a0_0
      · rw [if_pos h2] at h
        by_cases h3 : (l0_4.length : Int) > mx 1 (wrap64 (a0_0 - a0_1))
        · rw [if_pos h3] at h; exact absurd h (by simp)
        · rw [if_neg h3] at h
          by_cases h4 : ghGood [] l0_4 = true
          · rw [if_pos h4] at h
            by_cases h5 : ((l0_2 ++ l0_3).length : Int) ≤ a0_0
            · rw [List.length_append] at h5
              refine ⟨h1.1, h1.2, h2.1, h2.2, by omega, ?_⟩
              unfold mx wrap64 at h3
              split at h3 <;> omega
            · rw [if_neg h5] at h; exact absurd h (by simp)
          · rw [if_neg h4] at h; exact absurd h (by simp)
      · rw [if_neg h2] at h; exact absurd h (by simp)
    · rw [if_neg h1] at h; exact absurd h (by simp)
  · rw [if_neg hl] at h
    exact absurd h (by simp)
theorem ghostPut_len (cp mo : Int) (gh : List Int) (h : Int) : (ghostPut cp mo gh h).length ≤ gh.length + 1 := by
  unfold ghostPut
  have := List.length_filter_le (fun x => x != h) gh
  split
  · rw [List.length_drop, List.length_append]; simp; omega
  · rw [List.length_append]; simp; omega
theorem goSmall_gh (k : Nat) (cp mo : Int) : ∀ (s m : List S120) (gh : List Int) (r : List S120 × List S120 × List Int × ByteArray × Bool), goSmall k cp mo s m gh = some r → r.2.2.1.length ≤ gh.length + 1
  | [], m, gh, r, h => by
    simp only [goSmall, Option.some.injEq] at h
    subst h; simp
  | x :: t, m, gh, r, h => by
    unfold goSmall at h
    by_cases c : x.f2 > 1
    · rw [if_pos c] at h
      exact goSmall_gh k cp mo t _ _ r h
    · rw [if_neg c] at h
      obtain ⟨hh, _, h⟩ := Option.bind_eq_some_iff.mp h
      obtain rfl := Option.some.inj h
      exact ghostPut_len _ _ _ _
theorem goMain_len : ∀ (k : Nat) (m : List S120) (r : List S120 × ByteArray × Bool), goMain k m = some r → r.1.length ≤ m.length
  | 0, _, _, h => by simp [goMain] at h
  | _ + 1, [], r, h => by
    simp only [goMain, Option.some.injEq] at h
    subst h; simp
  | k + 1, x :: t, r, h => by
    replace h : (if x.f2 = 0 then some (t, x.f0, true) else goMain k (t ++ [⟨x.f0, x.f1, wrap64 (x.f2 - 1)⟩])) = some r := h
    by_cases c : x.f2 = 0
    · rw [if_pos c] at h
      obtain rfl := Option.some.inj h
      simp
    · rw [if_neg c] at h
      have := goMain_len k _ r h
      simpa using this
theorem goEvict_len {k : Nat} {cp mo : Int} {s m : List S120} {gh : List Int} {r : List S120 × List S120 × List Int × ByteArray × Bool} (h : goEvict k cp mo s m gh = some r) : r.1.length + r.2.1.length ≤ s.length + m.length ∧ r.2.2.1.length ≤ gh.length + 1 := by
  unfold goEvict at h
  by_cases c : (s.length : Int) ≥ mo ∨ m.length = 0
  · rw [if_pos c] at h
    obtain ⟨q, h1, h2⟩ := Option.bind_eq_some_iff.mp h
    have e1 := goSmall_len k cp mo s m gh q h1
    have e2 := goSmall_gh k cp mo s m gh q h1
    by_cases c2 : q.2.2.2.2 = true
    · rw [if_pos c2] at h2
      obtain rfl := Option.some.inj h2
      exact ⟨e1, e2⟩
    · rw [if_neg c2] at h2
      obtain ⟨z, h3, h4⟩ := Option.bind_eq_some_iff.mp h2
      obtain rfl := Option.some.inj h4
      have := goMain_len k _ z h3
      exact ⟨by dsimp only; omega, e2⟩
  · rw [if_neg c] at h
    obtain ⟨z, h3, h4⟩ := Option.bind_eq_some_iff.mp h
    obtain rfl := Option.some.inj h4
    have := goMain_len k _ z h3
    exact ⟨by dsimp only; omega, by dsimp only; omega⟩
theorem ThreeAt.grown {W W1 : World} {g base : Nat} {cp mo : Int} {s m : List S120} {gh : List Int} {row : Option Nat} (h : ThreeAt W g base cp mo s m gh) (hg : W.grownBy W1 row) (hrow : ∀ k, row = some k → ∃ cells, W.heap[k]? = some (.cells cells 9 (0, 0))) : ThreeAt W1 g base cp mo s m gh := by
  obtain ⟨V2, V3, V4, h0, h2, h3, h4⟩ := h
  refine ⟨V2, V3, V4, blk_grown h0 hg (fun he => ?_), Q_grownT h2 hg hrow (by decide), Q_grownT h3 hg hrow (by decide), Q_grownT h4 hg hrow (by decide)⟩
  obtain ⟨cells, hc⟩ := hrow g he.symm
  rw [h0] at hc
  simp at hc
theorem R_FrT {α : Type} {d : Kd α} {e base : Nat} {w w1 : World} {ok : Nat → Prop} {V : Value} {xs : List α} {g t : Nat} {cs : Array Value} (h : d.R e w base ok V xs) (hf : FrT g w w1) (hb : w.heap[g]? = some (.cells cs t (0, 0))) (ht : ∀ q, q ∈ e :: d.E → q ≠ t) (ht2 : ∀ q, q ∈ e :: d.E → q ≠ 120 ∧ q ≠ 3) : d.R e w1 base ok V xs := by
  refine Kd.R_mono (Kd.R_move (Kd.R_bound h) (fun k hk' => ?_)) (fun _ hk' => hk'.1)
  obtain ⟨_, _, hlt, q, hq, cells, hc⟩ := hk'
  rw [hf.2 k _ _ _ hc (fun he => ?_) (ht2 q hq).1 (ht2 q hq).2, hc]
  subst he
  rw [hb] at hc
  injection hc with hc
  injection hc with _ hc
  exact ht q hq hc.symm
theorem blk_FrT {w w1 : World} {g i q : Nat} {cs : Array Value} (h : w.heap[i]? = some (.cells cs q (0, 0))) (hf : FrT g w w1) (hg : i ≠ g) (h1 : q ≠ 120) (h2 : q ≠ 3) : w1.heap[i]? = some (.cells cs q (0, 0)) := hf.2 i cs q (0, 0) h hg h1 h2
set_option maxHeartbeats 8000000 in
set_option maxRecDepth 100000 in
theorem impl_Put.no1 (k : Nat) (a0_0 a0_1 : Int) (A0_2 : Option Addr) (c0_2 : Nat) (l0_2 : List S120) (A0_3 : Option Addr) (c0_3 : Nat) (l0_3 : List S120) (A0_4 : Option Addr) (c0_4 : Nat) (l0_4 : List Int) (a1 a2 : ByteArray) (w : World) (hr0_2 : Kd.C k120 w A0_2 l0_2.length l0_2) (hc0_2 : l0_2.length ≤ c0_2) (hr0_3 : Kd.C k120 w A0_3 l0_3.length l0_3) (hc0_3 : l0_3.length ≤ c0_3) (hr0_4 : Kd.C (Kd.int .i64) w A0_4 l0_4.length l0_4) (hc0_4 : l0_4.length ≤ c0_4) (hok : impl_ThreeOk.f k a0_0 a0_1 l0_2 l0_3 l0_4 = some false) :
    Calls Try.prog 104 #[.agg #[.int .i64 a0_0, .int .i64 a0_1, .slice A0_2 l0_2.length c0_2, .slice A0_3 l0_3.length c0_3, .slice A0_4 l0_4.length c0_4], .string a1, .string a2] w fun e w' => e = .returned (.tuple #[.agg #[.int .i64 0, .int .i64 0, .slice none 0 0, .slice none 0 0, .slice none 0 0], .slice none 0 0, .bool false]) ∧ Below w.heap.size w w' := by
  have HR2 := Aside0.mk hr0_2
  have HC2 := Aside0.mk hc0_2
  have HR3 := Aside0.mk hr0_3
  have HC3 := Aside0.mk hc0_3
  have HR4 := Aside0.mk hr0_4
  have HC4 := Aside0.mk hc0_4
  clear hr0_2 hc0_2 hr0_3 hc0_3 hr0_4 hc0_4
  have OK := Aside0.mk hok
  clear hok
  have BK1 := Aside0.mk (blk_alloc (blk_new w (.cells #[.int .i64 a0_0, .int .i64 a0_1, .slice A0_2 l0_2.length c0_2, .slice A0_3 l0_3.length c0_3, .slice A0_4 l0_4.length c0_4] 75)) (.cells #[.int .i64 0, .int .i64 0, .slice none 0 0, .slice none 0 0, .slice none 0 0] 75))
  have BK4 := Aside0.mk (show ((w.alloc (.cells #[.int .i64 a0_0, .int .i64 a0_1, .slice A0_2 l0_2.length c0_2, .slice A0_3 l0_3.length c0_3, .slice A0_4 l0_4.length c0_4] 75)).alloc (.cells #[.int .i64 0, .int .i64 0, .slice none 0 0, .slice none 0 0, .slice none 0 0] 75)).heap[w.heap.size + 1]? = some (.cells #[.int .i64 0, .int .i64 0, .slice none 0 0, .slice none 0 0, .slice none 0 0] 75 (0, 0)) by have z := blk_new (w.alloc (.cells #[.int .i64 a0_0, .int .i64 a0_1, .slice A0_2 l0_2.length c0_2, .slice A0_3 l0_3.length c0_3, .slice A0_4 l0_4.length c0_4] 75)) (.cells #[.int .i64 0, .int .i64 0, .slice none 0 0, .slice none 0 0, .slice none 0 0] 75); simpa using z)
  have BKB := Aside0.mk (((Below.refl w.heap.size w).alloc (Nat.le_refl _) (.cells #[.int .i64 a0_0, .int .i64 a0_1, .slice A0_2 l0_2.length c0_2, .slice A0_3 l0_3.length c0_3, .slice A0_4 l0_4.length c0_4] 75)).alloc (by simp) (.cells #[.int .i64 0, .int .i64 0, .slice none 0 0, .slice none 0 0, .slice none 0 0] 75))
  go_enter Try.func104, Try.ntmps104
  go_wp2_with (first | (go_at_call 49; (with_reducible refine (impl_ThreeOk.calls k a0_0 a0_1 A0_2 c0_2 l0_2 A0_3 c0_3 l0_3 A0_4 c0_4 l0_4 false _ (Kd.C_alloc (Kd.C_alloc HR2.out _) _) HC2.out (Kd.C_alloc (Kd.C_alloc HR3.out _) _) HC3.out (Kd.C_alloc (Kd.C_alloc HR4.out _) _) HC4.out OK.out).mono ?_); rintro e w1 ⟨rfl, hb⟩; have B1 := Aside0.mk (blk_below BK1.out hb); have B4 := Aside0.mk (blk_below BK4.out hb); have HB := Aside0.mk (below_step BKB.out hb); clear hb; obtain ⟨⟨p0, p1, p2, p3, p4⟩, q0, q1, q2, q3, q4⟩ := cells5 B1.out; obtain ⟨⟨r0, r1, r2, r3, r4⟩, t0, t1, t2, t3, t4⟩ := cells5 B4.out))
  refine bodyPost_ret (results_ctt rfl _ _ (w.heap.size + 1) 75 #[.int .i64 0, .int .i64 0, .slice none 0 0, .slice none 0 0, .slice none 0 0] (0, 0) _ rfl (put5 B4.out _ _ _ _ _) Try.underlying75 rfl (by kernel_rfl)) rfl ?_
  exact ⟨rfl, below_put5 HB.out (by omega) _ _ _ _ _⟩
set_option maxHeartbeats 8000000 in
set_option maxRecDepth 100000 in
theorem impl_Put.no2 (k : Nat) (a0_0 a0_1 : Int) (A0_2 : Option Addr) (c0_2 : Nat) (l0_2 : List S120) (A0_3 : Option Addr) (c0_3 : Nat) (l0_3 : List S120) (A0_4 : Option Addr) (c0_4 : Nat) (l0_4 : List Int) (a1 a2 : ByteArray) (w : World) (hr0_2 : Kd.C k120 w A0_2 l0_2.length l0_2) (hc0_2 : l0_2.length ≤ c0_2) (hr0_3 : Kd.C k120 w A0_3 l0_3.length l0_3) (hc0_3 : l0_3.length ≤ c0_3) (hr0_4 : Kd.C (Kd.int .i64) w A0_4 l0_4.length l0_4) (hc0_4 : l0_4.length ≤ c0_4) (hok : impl_ThreeOk.f k a0_0 a0_1 l0_2 l0_3 l0_4 = some true) (hiok : impl_ItemOk.f k a1 a2 0 = some false) :
    Calls Try.prog 104 #[.agg #[.int .i64 a0_0, .int .i64 a0_1, .slice A0_2 l0_2.length c0_2, .slice A0_3 l0_3.length c0_3, .slice A0_4 l0_4.length c0_4], .string a1, .string a2] w fun e w' => e = .returned (.tuple #[.agg #[.int .i64 0, .int .i64 0, .slice none 0 0, .slice none 0 0, .slice none 0 0], .slice none 0 0, .bool false]) ∧ Below w.heap.size w w' := by
  have HR2 := Aside0.mk hr0_2
  have HC2 := Aside0.mk hc0_2
  have HR3 := Aside0.mk hr0_3
  have HC3 := Aside0.mk hc0_3
  have HR4 := Aside0.mk hr0_4
  have HC4 := Aside0.mk hc0_4
  clear hr0_2 hc0_2 hr0_3 hc0_3 hr0_4 hc0_4
  have OK := Aside0.mk hok
  have IOK := Aside0.mk hiok
  clear hok hiok
  have BK1 := Aside0.mk (blk_alloc (blk_new w (.cells #[.int .i64 a0_0, .int .i64 a0_1, .slice A0_2 l0_2.length c0_2, .slice A0_3 l0_3.length c0_3, .slice A0_4 l0_4.length c0_4] 75)) (.cells #[.int .i64 0, .int .i64 0, .slice none 0 0, .slice none 0 0, .slice none 0 0] 75))
  have BK4 := Aside0.mk (show ((w.alloc (.cells #[.int .i64 a0_0, .int .i64 a0_1, .slice A0_2 l0_2.length c0_2, .slice A0_3 l0_3.length c0_3, .slice A0_4 l0_4.length c0_4] 75)).alloc (.cells #[.int .i64 0, .int .i64 0, .slice none 0 0, .slice none 0 0, .slice none 0 0] 75)).heap[w.heap.size + 1]? = some (.cells #[.int .i64 0, .int .i64 0, .slice none 0 0, .slice none 0 0, .slice none 0 0] 75 (0, 0)) by have z := blk_new (w.alloc (.cells #[.int .i64 a0_0, .int .i64 a0_1, .slice A0_2 l0_2.length c0_2, .slice A0_3 l0_3.length c0_3, .slice A0_4 l0_4.length c0_4] 75)) (.cells #[.int .i64 0, .int .i64 0, .slice none 0 0, .slice none 0 0, .slice none 0 0] 75); simpa using z)
  have BKB := Aside0.mk (((Below.refl w.heap.size w).alloc (Nat.le_refl _) (.cells #[.int .i64 a0_0, .int .i64 a0_1, .slice A0_2 l0_2.length c0_2, .slice A0_3 l0_3.length c0_3, .slice A0_4 l0_4.length c0_4] 75)).alloc (by simp) (.cells #[.int .i64 0, .int .i64 0, .slice none 0 0, .slice none 0 0, .slice none 0 0] 75))
  go_enter Try.func104, Try.ntmps104
  go_wp2_with (first | (go_at_call 49; (with_reducible refine (impl_ThreeOk.calls k a0_0 a0_1 A0_2 c0_2 l0_2 A0_3 c0_3 l0_3 A0_4 c0_4 l0_4 true _ (Kd.C_alloc (Kd.C_alloc HR2.out _) _) HC2.out (Kd.C_alloc (Kd.C_alloc HR3.out _) _) HC3.out (Kd.C_alloc (Kd.C_alloc HR4.out _) _) HC4.out OK.out).mono ?_); rintro e w1 ⟨rfl, hb⟩; have B1 := Aside0.mk (blk_below BK1.out hb); have B4 := Aside0.mk (blk_below BK4.out hb); have HB := Aside0.mk (below_step BKB.out hb); clear hb; obtain ⟨⟨p0, p1, p2, p3, p4⟩, q0, q1, q2, q3, q4⟩ := cells5 B1.out; obtain ⟨⟨r0, r1, r2, r3, r4⟩, t0, t1, t2, t3, t4⟩ := cells5 B4.out) | (go_at_call 78; (with_reducible refine (impl_ItemOk.calls k a1 a2 0 false _ IOK.out).mono ?_); rintro e w2 ⟨rfl, hb⟩; have C1 := Aside0.mk (blk_below B1.out hb); have C4 := Aside0.mk (blk_below B4.out hb); have HB2 := Aside0.mk (below_step HB.out hb); clear hb p0 p1 p2 p3 p4 q0 q1 q2 q3 q4 r0 r1 r2 r3 r4 t0 t1 t2 t3 t4; obtain ⟨⟨p0, p1, p2, p3, p4⟩, q0, q1, q2, q3, q4⟩ := cells5 C1.out; obtain ⟨⟨r0, r1, r2, r3, r4⟩, t0, t1, t2, t3, t4⟩ := cells5 C4.out))
  refine bodyPost_ret (results_ctt rfl _ _ (w.heap.size + 1) 75 #[.int .i64 0, .int .i64 0, .slice none 0 0, .slice none 0 0, .slice none 0 0] (0, 0) _ rfl (put5 C4.out _ _ _ _ _) Try.underlying75 rfl (by kernel_rfl)) rfl ?_
  exact ⟨rfl, below_put5 HB2.out (by omega) _ _ _ _ _⟩
set_option maxHeartbeats 8000000 in
set_option maxRecDepth 100000 in
theorem impl_Put.hit2 (k : Nat) (a0_0 a0_1 : Int) (A0_2 : Option Addr) (c0_2 : Nat) (l0_2 : List S120) (A0_3 : Option Addr) (c0_3 : Nat) (l0_3 : List S120) (A0_4 : Option Addr) (c0_4 : Nat) (l0_4 : List Int) (a1 a2 : ByteArray) (w : World) (hr0_2 : Kd.C k120 w A0_2 l0_2.length l0_2) (hc0_2 : l0_2.length ≤ c0_2) (hr0_3 : Kd.C k120 w A0_3 l0_3.length l0_3) (hc0_3 : l0_3.length ≤ c0_3) (hr0_4 : Kd.C (Kd.int .i64) w A0_4 l0_4.length l0_4) (hc0_4 : l0_4.length ≤ c0_4) (hok : impl_ThreeOk.f k a0_0 a0_1 l0_2 l0_3 l0_4 = some true) (hiok : impl_ItemOk.f k a1 a2 0 = some true) (i : Nat) (hi : i < l0_2.length) (hx : ixOf l0_2 a1 = i) :
    Calls Try.prog 104 #[.agg #[.int .i64 a0_0, .int .i64 a0_1, .slice A0_2 l0_2.length c0_2, .slice A0_3 l0_3.length c0_3, .slice A0_4 l0_4.length c0_4], .string a1, .string a2] w fun e w' => ∃ v2_ v3_ v4_ v5_ : Value, e = .returned (.tuple #[.agg #[.int .i64 a0_0, .int .i64 a0_1, v2_, v3_, v4_], v5_, .bool true]) ∧ Kd.R k120 120 w' w.heap.size (fun k_ => some k_ ≠ (v3_ : Value).ownBlock) v2_ (l0_2.set i ⟨(rd_T120 l0_2 i).f0, a2, (bump (rd_T120 l0_2 i)).f2⟩) ∧ Kd.R k120 120 w' w.heap.size (fun k_ => some k_ ≠ (v2_ : Value).ownBlock) v3_ l0_3 ∧ Kd.R (Kd.int .i64) 3 w' w.heap.size (fun _ => True) v4_ l0_4 ∧ Kd.R Kd.string 9 w' w.heap.size (fun _ => True) v5_ [] ∧ Below w.heap.size w w' := by
  have HR2 := Aside0.mk hr0_2
  have HC2 := Aside0.mk hc0_2
  have HR3 := Aside0.mk hr0_3
  have HC3 := Aside0.mk hc0_3
  have HR4 := Aside0.mk hr0_4
  have HC4 := Aside0.mk hc0_4
  clear hr0_2 hc0_2 hr0_3 hc0_3 hr0_4 hc0_4
  have HXX := Aside0.mk hx
  have HII := Aside0.mk hi
  clear hx hi
  obtain ⟨y, hy⟩ : ∃ y, y = rd_T120 l0_2 i := ⟨_, rfl⟩
  have HY := Aside0.mk hy
  rw [← hy]
  clear hy
  obtain ⟨z, hz⟩ : ∃ z : Int, mn 3 (wrap64 (y.f2 + 1)) = z := ⟨_, rfl⟩
  have hz_ : (if wrap64 (y.f2 + 1) < 3 then wrap64 (y.f2 + 1) else 3) = z := hz
  have hbz : (bump y).f2 = z := by unfold bump; rw [hz]
  rw [hbz]
  obtain ⟨xs1, hxs1⟩ : ∃ q, q = l0_2.set i ⟨y.f0, a2, z⟩ := ⟨_, rfl⟩
  have HX1 := Aside0.mk hxs1
  rw [← hxs1]
  have HXL : Aside0 (xs1.length = l0_2.length) := ⟨by rw [hxs1, List.length_set]⟩
  clear hz hxs1 hbz
  have HCR := Aside0.mk (show impl_copyThree.f a0_0 a0_1 l0_2 l0_3 l0_4 = some (a0_0, a0_1, l0_2, l0_3, l0_4) by
    have hl := ThreeOk_len hok
    unfold impl_copyThree.f impl_copyItems.f impl_copyInts.f
    rw [if_pos (by omega), Option.bind_some, if_pos (by omega), Option.bind_some, if_pos (by omega)]; rfl)
  have OK := Aside0.mk hok
  have IOK := Aside0.mk hiok
  have HTT := Aside0.mk (ThreeOk_true hok)
  clear hok hiok
  have BK1 := Aside0.mk (blk_alloc (blk_new w (.cells #[.int .i64 a0_0, .int .i64 a0_1, .slice A0_2 l0_2.length c0_2, .slice A0_3 l0_3.length c0_3, .slice A0_4 l0_4.length c0_4] 75)) (.cells #[.int .i64 0, .int .i64 0, .slice none 0 0, .slice none 0 0, .slice none 0 0] 75))
  have BK4 := Aside0.mk (show ((w.alloc (.cells #[.int .i64 a0_0, .int .i64 a0_1, .slice A0_2 l0_2.length c0_2, .slice A0_3 l0_3.length c0_3, .slice A0_4 l0_4.length c0_4] 75)).alloc (.cells #[.int .i64 0, .int .i64 0, .slice none 0 0, .slice none 0 0, .slice none 0 0] 75)).heap[w.heap.size + 1]? = some (.cells #[.int .i64 0, .int .i64 0, .slice none 0 0, .slice none 0 0, .slice none 0 0] 75 (0, 0)) by have z := blk_new (w.alloc (.cells #[.int .i64 a0_0, .int .i64 a0_1, .slice A0_2 l0_2.length c0_2, .slice A0_3 l0_3.length c0_3, .slice A0_4 l0_4.length c0_4] 75)) (.cells #[.int .i64 0, .int .i64 0, .slice none 0 0, .slice none 0 0, .slice none 0 0] 75); simpa using z)
  have BKB := Aside0.mk (((Below.refl w.heap.size w).alloc (Nat.le_refl _) (.cells #[.int .i64 a0_0, .int .i64 a0_1, .slice A0_2 l0_2.length c0_2, .slice A0_3 l0_3.length c0_3, .slice A0_4 l0_4.length c0_4] 75)).alloc (by simp) (.cells #[.int .i64 0, .int .i64 0, .slice none 0 0, .slice none 0 0, .slice none 0 0] 75))
  go_enter Try.func104, Try.ntmps104
  go_wp2_with (first | (go_at_call 49; (with_reducible refine (impl_ThreeOk.calls k a0_0 a0_1 A0_2 c0_2 l0_2 A0_3 c0_3 l0_3 A0_4 c0_4 l0_4 true _ (Kd.C_alloc (Kd.C_alloc HR2.out _) _) HC2.out (Kd.C_alloc (Kd.C_alloc HR3.out _) _) HC3.out (Kd.C_alloc (Kd.C_alloc HR4.out _) _) HC4.out OK.out).mono ?_); rintro e w1 ⟨rfl, hb⟩; have B1 := Aside0.mk (blk_below BK1.out hb); have B4 := Aside0.mk (blk_below BK4.out hb); have HB := Aside0.mk (below_step BKB.out hb); clear hb; obtain ⟨⟨p0, p1, p2, p3, p4⟩, q0, q1, q2, q3, q4⟩ := cells5 B1.out; obtain ⟨⟨r0, r1, r2, r3, r4⟩, t0, t1, t2, t3, t4⟩ := cells5 B4.out) | (go_at_call 78; (with_reducible refine (impl_ItemOk.calls k a1 a2 0 true _ IOK.out).mono ?_); rintro e w2 ⟨rfl, hb⟩; have C1 := Aside0.mk (blk_below B1.out hb); have C4 := Aside0.mk (blk_below B4.out hb); have HB2 := Aside0.mk (below_step HB.out hb); clear hb p0 p1 p2 p3 p4 q0 q1 q2 q3 q4 r0 r1 r2 r3 r4 t0 t1 t2 t3 t4; obtain ⟨⟨p0, p1, p2, p3, p4⟩, q0, q1, q2, q3, q4⟩ := cells5 C1.out; obtain ⟨⟨r0, r1, r2, r3, r4⟩, t0, t1, t2, t3, t4⟩ := cells5 C4.out) | (go_at_call 110; (with_reducible refine (impl_copyThree.calls a0_0 a0_1 A0_2 c0_2 l0_2 A0_3 c0_3 l0_3 A0_4 c0_4 l0_4 a0_0 a0_1 l0_2 l0_3 l0_4 _ (Kd.C_below HR2.out HB2.out) HC2.out (Kd.C_below HR3.out HB2.out) HC3.out (Kd.C_below HR4.out HB2.out) HC4.out HCR.out).mono ?_); rintro e w3 ⟨v2, v3, v4, rfl, ho2, ho3, ho4, hb⟩; obtain ⟨A2, c2, rfl, hc2, hC2⟩ := Kd.R_reads ho2; obtain ⟨A3, c3, rfl, hc3, hC3⟩ := Kd.R_reads ho3; obtain ⟨A4, c4, rfl, hc4, hC4⟩ := Kd.R_reads ho4; have HO2 := Aside0.mk (Kd.R_lower ho2 HB2.out.size); have HO3 := Aside0.mk (Kd.R_lower ho3 HB2.out.size); have HO4 := Aside0.mk (Kd.R_lower ho4 HB2.out.size); have HL2 := Aside0.mk hc2; have HL3 := Aside0.mk hc3; have HK2 := Aside0.mk hC2; have HK3 := Aside0.mk hC3; have D4 := Aside0.mk (blk_below C4.out hb); have HB3 := Aside0.mk (below_step HB2.out hb); have HS3 := Aside0.mk (show w.heap.size + 1 < w3.heap.size from blk_lt D4.out); clear hb ho2 ho3 ho4 hc2 hc3 hc4 hC2 hC3 hC4 p0 p1 p2 p3 p4 q0 q1 q2 q3 q4 r0 r1 r2 r3 r4 t0 t1 t2 t3 t4; have BN := Aside0.mk (blk_new w3 (.cells #[.int .i64 a0_0, .int .i64 a0_1, .slice A2 l0_2.length c2, .slice A3 l0_3.length c3, .slice A4 l0_4.length c4] 75)); obtain ⟨g2, cx, hv, _, _, _⟩ := own_form HO2.out (Nat.lt_of_le_of_lt (Nat.zero_le _) HII.out); injection hv with hv1 hvl hv2; subst hv1; subst hv2; clear hvl; have HPT := Aside0.mk (show itemPtr (some ⟨g2, 0, none⟩) l0_2 A3 l0_3 a1 = some ⟨g2, i * 3, none⟩ by unfold itemPtr; rw [if_pos (by rw [HXX.out]; omega), HXX.out]; rw [Option.map_some, Int.toNat_natCast, add_plain])) | ((with_reducible refine gate_dst (N := 28) rfl ?_); refine Kd.R_lit Kd.string _ 9 ?hg (N := 28) ?hd (xs := ([] : List ByteArray)) (inner := []) (ok := fun _ => True) (okp := fun _ => True) ?hr ?hp (fun _ hk => hk) trivial (Below.refl _ _) (Nat.le_refl _) (by simp) ?_; (case hd => rfl); (case hg => rfl); (case hr => first | (go_simp; done) | (go_simp; rfl)); (case hp => exact (Reps.none _ _)); intro vg w4 hog hb hgx hnew; clear hgx hnew; have E4 := Aside0.mk (blk_below (blk_alloc D4.out _) hb); have EN := Aside0.mk (blk_below BN.out hb); have HB4 := Aside0.mk (below_step (HB3.out.alloc HB3.out.size _) hb); have HP2 := Aside0.mk (Kd.R_below (Kd.R_alloc HO2.out _) hb); have HP3 := Aside0.mk (Kd.R_below (Kd.R_alloc HO3.out _) hb); have HP4 := Aside0.mk (Kd.R_below (Kd.R_alloc HO4.out _) hb); have HQK2 := Aside0.mk (Kd.C_below (Kd.C_alloc HK2.out _) hb); have HQK3 := Aside0.mk (Kd.C_below (Kd.C_alloc HK3.out _) hb); have HG4 := Aside0.mk (Kd.R_lower hog (show w.heap.size ≤ (w3.alloc _).heap.size by have := HB3.out.size; simp; omega)); obtain ⟨Ag, cg, rfl⟩ := Kd.R_slice hog; clear hb hog) | (go_at_call 111; (with_reducible refine (item.calls w3.heap.size a0_0 a0_1 (some ⟨g2, 0, none⟩) c2 l0_2 A3 c3 l0_3 _ a1 _ EN.out HQK2.out HL2.out HQK3.out HL3.out).mono ?_); rw [HPT.out]; rintro e w5 ⟨rfl, hb⟩; have F4 := Aside0.mk (blk_below E4.out hb); have FN := Aside0.mk (blk_below EN.out hb); have HB5 := Aside0.mk (below_step HB4.out hb); have HT2 := Aside0.mk (Kd.R_below HP2.out hb); have HT3 := Aside0.mk (Kd.R_below HP3.out hb); have HT4 := Aside0.mk (Kd.R_below HP4.out hb); have HG5 := Aside0.mk (Kd.R_below HG4.out hb); clear hb; obtain ⟨⟨p0, p1, p2, p3, p4⟩, q0, q1, q2, q3, q4⟩ := cells5 FN.out; obtain ⟨⟨r0, r1, r2, r3, r4⟩, t0, t1, t2, t3, t4⟩ := cells5 F4.out; obtain ⟨x0, x1, x2⟩ := own_elem HT2.out i HII.out; rw [← HY.out] at x0 x1 x2; have xf := own_frozen HT2.out (i * 3 + 2); have xg := own_frozen HT2.out (i * 3 + 1); have n1 : (g2 ≠ w3.heap.size) := (fun he => by have h1 := Kd.R_ne HT2.out FN.out (by decide); rw [he] at h1; simp [Value.ownBlock] at h1); have n2 := n1.symm; have n3 : (g2 ≠ w.heap.size + 1) := (fun he => by have h1 := Kd.R_ne HT2.out F4.out (by decide); rw [he] at h1; simp [Value.ownBlock] at h1); have n4 := n3.symm; have n5 : w.heap.size + 1 ≠ w3.heap.size := Nat.ne_of_lt HS3.out; have n6 := n5.symm))
  obtain ⟨P1, P2⟩ := own_put1 HT2.out i HII.out a2
  obtain ⟨P3, P4⟩ := own_put2 P1 i (by rw [List.length_set]; exact HII.out) z
  have hset : ((l0_2.set i ⟨(rd_T120 l0_2 i).f0, a2, (rd_T120 l0_2 i).f2⟩).set i ⟨(rd_T120 (l0_2.set i ⟨(rd_T120 l0_2 i).f0, a2, (rd_T120 l0_2 i).f2⟩) i).f0, (rd_T120 (l0_2.set i ⟨(rd_T120 l0_2 i).f0, a2, (rd_T120 l0_2 i).f2⟩) i).f1, z⟩) = xs1 := by
    have hrd : rd_T120 (l0_2.set i ⟨(rd_T120 l0_2 i).f0, a2, (rd_T120 l0_2 i).f2⟩) i = ⟨(rd_T120 l0_2 i).f0, a2, (rd_T120 l0_2 i).f2⟩ := by simp [rd_T120, HII.out]
    rw [hrd, List.set_set, HX1.out, ← HY.out]
  rw [hset] at P3
  have P5 := P2.trans P4
  have E2 := Aside0.mk P3
  have E3 := Aside0.mk (Kd.R_grown HT3.out P5 (fun k hk => by simpa [Value.ownBlock] using hk))
  have hrow : ∀ k, some g2 = some k → ∃ cells, w5.heap[k]? = some (.cells cells 120 (0, 0)) := fun k hk => by injection hk with hk; subst hk; exact Kd.R_typed HT2.out g2 (by simp [Value.ownBlock])
  have E4 := Aside0.mk (R_grownT HT4.out P5 hrow (by decide))
  have EG := Aside0.mk (R_grownT HG5.out P5 hrow (by decide))
  have ER := Aside0.mk (blk_grown F4.out P5 (by have := Kd.R_ne HT2.out F4.out (by decide); simpa [Value.ownBlock] using this))
  have hbg := Kd.R_base HT2.out g2 (by simp [Value.ownBlock])
  have EB := (HB5.out.setCell (p := ⟨g2, i * 3 + 1, none⟩) hbg (.string a2)).setCell (p := ⟨g2, i * 3 + 2, none⟩) hbg (.int .i64 z)
  refine bodyPost_ret (results_ctt rfl _ _ (w.heap.size + 1) 75 #[.int .i64 a0_0, .int .i64 a0_1, .slice (some ⟨g2, 0, none⟩) l0_2.length c2, .slice A3 l0_3.length c3, .slice A4 l0_4.length c4] (0, 0) _ rfl (put5 ER.out _ _ _ _ _) Try.underlying75 rfl (by kernel_rfl)) rfl ?_
  have KP := keep5 ((w5.setCell ⟨g2, i * 3 + 1, none⟩ (.string a2)).setCell ⟨g2, i * 3 + 2, none⟩ (.int .i64 z)) (w.heap.size + 1) (.int .i64 a0_0) (.int .i64 a0_1) (.slice (some ⟨g2, 0, none⟩) l0_2.length c2) (.slice A3 l0_3.length c3) (.slice A4 l0_4.length c4)
  exact ⟨_, _, _, _, rfl, R_keepG E2.out KP ER.out (by decide), R_keepG E3.out KP ER.out (by decide), R_keepG E4.out KP ER.out (by decide), R_keepG EG.out KP ER.out (by decide), below_put5 EB (by omega) _ _ _ _ _⟩
set_option maxHeartbeats 8000000 in
set_option maxRecDepth 100000 in
theorem impl_Put.hit3 (k : Nat) (a0_0 a0_1 : Int) (A0_2 : Option Addr) (c0_2 : Nat) (l0_2 : List S120) (A0_3 : Option Addr) (c0_3 : Nat) (l0_3 : List S120) (A0_4 : Option Addr) (c0_4 : Nat) (l0_4 : List Int) (a1 a2 : ByteArray) (w : World) (hr0_2 : Kd.C k120 w A0_2 l0_2.length l0_2) (hc0_2 : l0_2.length ≤ c0_2) (hr0_3 : Kd.C k120 w A0_3 l0_3.length l0_3) (hc0_3 : l0_3.length ≤ c0_3) (hr0_4 : Kd.C (Kd.int .i64) w A0_4 l0_4.length l0_4) (hc0_4 : l0_4.length ≤ c0_4) (hok : impl_ThreeOk.f k a0_0 a0_1 l0_2 l0_3 l0_4 = some true) (hiok : impl_ItemOk.f k a1 a2 0 = some true) (hx2 : ¬ 0 ≤ ixOf l0_2 a1) (i : Nat) (hi : i < l0_3.length) (hx : ixOf l0_3 a1 = i) :
    Calls Try.prog 104 #[.agg #[.int .i64 a0_0, .int .i64 a0_1, .slice A0_2 l0_2.length c0_2, .slice A0_3 l0_3.length c0_3, .slice A0_4 l0_4.length c0_4], .string a1, .string a2] w fun e w' => ∃ v2_ v3_ v4_ v5_ : Value, e = .returned (.tuple #[.agg #[.int .i64 a0_0, .int .i64 a0_1, v2_, v3_, v4_], v5_, .bool true]) ∧ Kd.R k120 120 w' w.heap.size (fun k_ => some k_ ≠ (v3_ : Value).ownBlock) v2_ l0_2 ∧ Kd.R k120 120 w' w.heap.size (fun k_ => some k_ ≠ (v2_ : Value).ownBlock) v3_ (l0_3.set i ⟨(rd_T120 l0_3 i).f0, a2, (bump (rd_T120 l0_3 i)).f2⟩) ∧ Kd.R (Kd.int .i64) 3 w' w.heap.size (fun _ => True) v4_ l0_4 ∧ Kd.R Kd.string 9 w' w.heap.size (fun _ => True) v5_ [] ∧ Below w.heap.size w w' := by
  have HR2 := Aside0.mk hr0_2
  have HC2 := Aside0.mk hc0_2
  have HR3 := Aside0.mk hr0_3
  have HC3 := Aside0.mk hc0_3
  have HR4 := Aside0.mk hr0_4
  have HC4 := Aside0.mk hc0_4
  clear hr0_2 hc0_2 hr0_3 hc0_3 hr0_4 hc0_4
  have HXX := Aside0.mk hx
  have HII := Aside0.mk hi
  have HX2 := Aside0.mk (Int.not_le.mp hx2)
  clear hx2
  clear hx hi
  obtain ⟨y, hy⟩ : ∃ y, y = rd_T120 l0_3 i := ⟨_, rfl⟩
  have HY := Aside0.mk hy
  rw [← hy]
  clear hy
  obtain ⟨z, hz⟩ : ∃ z : Int, mn 3 (wrap64 (y.f2 + 1)) = z := ⟨_, rfl⟩
  have hz_ : (if wrap64 (y.f2 + 1) < 3 then wrap64 (y.f2 + 1) else 3) = z := hz
  have hbz : (bump y).f2 = z := by unfold bump; rw [hz]
  rw [hbz]
  obtain ⟨xs1, hxs1⟩ : ∃ q, q = l0_3.set i ⟨y.f0, a2, z⟩ := ⟨_, rfl⟩
  have HX1 := Aside0.mk hxs1
  rw [← hxs1]
  have HXL : Aside0 (xs1.length = l0_3.length) := ⟨by rw [hxs1, List.length_set]⟩
  clear hz hxs1 hbz
  have HCR := Aside0.mk (show impl_copyThree.f a0_0 a0_1 l0_2 l0_3 l0_4 = some (a0_0, a0_1, l0_2, l0_3, l0_4) by
    have hl := ThreeOk_len hok
    unfold impl_copyThree.f impl_copyItems.f impl_copyInts.f
    rw [if_pos (by omega), Option.bind_some, if_pos (by omega), Option.bind_some, if_pos (by omega)]; rfl)
  have OK := Aside0.mk hok
  have IOK := Aside0.mk hiok
  have HTT := Aside0.mk (ThreeOk_true hok)
  clear hok hiok
  have BK1 := Aside0.mk (blk_alloc (blk_new w (.cells #[.int .i64 a0_0, .int .i64 a0_1, .slice A0_2 l0_2.length c0_2, .slice A0_3 l0_3.length c0_3, .slice A0_4 l0_4.length c0_4] 75)) (.cells #[.int .i64 0, .int .i64 0, .slice none 0 0, .slice none 0 0, .slice none 0 0] 75))
  have BK4 := Aside0.mk (show ((w.alloc (.cells #[.int .i64 a0_0, .int .i64 a0_1, .slice A0_2 l0_2.length c0_2, .slice A0_3 l0_3.length c0_3, .slice A0_4 l0_4.length c0_4] 75)).alloc (.cells #[.int .i64 0, .int .i64 0, .slice none 0 0, .slice none 0 0, .slice none 0 0] 75)).heap[w.heap.size + 1]? = some (.cells #[.int .i64 0, .int .i64 0, .slice none 0 0, .slice none 0 0, .slice none 0 0] 75 (0, 0)) by have z := blk_new (w.alloc (.cells #[.int .i64 a0_0, .int .i64 a0_1, .slice A0_2 l0_2.length c0_2, .slice A0_3 l0_3.length c0_3, .slice A0_4 l0_4.length c0_4] 75)) (.cells #[.int .i64 0, .int .i64 0, .slice none 0 0, .slice none 0 0, .slice none 0 0] 75); simpa using z)
  have BKB := Aside0.mk (((Below.refl w.heap.size w).alloc (Nat.le_refl _) (.cells #[.int .i64 a0_0, .int .i64 a0_1, .slice A0_2 l0_2.length c0_2, .slice A0_3 l0_3.length c0_3, .slice A0_4 l0_4.length c0_4] 75)).alloc (by simp) (.cells #[.int .i64 0, .int .i64 0, .slice none 0 0, .slice none 0 0, .slice none 0 0] 75))
  go_enter Try.func104, Try.ntmps104
  go_wp2_with (first | (go_at_call 49; (with_reducible refine (impl_ThreeOk.calls k a0_0 a0_1 A0_2 c0_2 l0_2 A0_3 c0_3 l0_3 A0_4 c0_4 l0_4 true _ (Kd.C_alloc (Kd.C_alloc HR2.out _) _) HC2.out (Kd.C_alloc (Kd.C_alloc HR3.out _) _) HC3.out (Kd.C_alloc (Kd.C_alloc HR4.out _) _) HC4.out OK.out).mono ?_); rintro e w1 ⟨rfl, hb⟩; have B1 := Aside0.mk (blk_below BK1.out hb); have B4 := Aside0.mk (blk_below BK4.out hb); have HB := Aside0.mk (below_step BKB.out hb); clear hb; obtain ⟨⟨p0, p1, p2, p3, p4⟩, q0, q1, q2, q3, q4⟩ := cells5 B1.out; obtain ⟨⟨r0, r1, r2, r3, r4⟩, t0, t1, t2, t3, t4⟩ := cells5 B4.out) | (go_at_call 78; (with_reducible refine (impl_ItemOk.calls k a1 a2 0 true _ IOK.out).mono ?_); rintro e w2 ⟨rfl, hb⟩; have C1 := Aside0.mk (blk_below B1.out hb); have C4 := Aside0.mk (blk_below B4.out hb); have HB2 := Aside0.mk (below_step HB.out hb); clear hb p0 p1 p2 p3 p4 q0 q1 q2 q3 q4 r0 r1 r2 r3 r4 t0 t1 t2 t3 t4; obtain ⟨⟨p0, p1, p2, p3, p4⟩, q0, q1, q2, q3, q4⟩ := cells5 C1.out; obtain ⟨⟨r0, r1, r2, r3, r4⟩, t0, t1, t2, t3, t4⟩ := cells5 C4.out) | (go_at_call 110; (with_reducible refine (impl_copyThree.calls a0_0 a0_1 A0_2 c0_2 l0_2 A0_3 c0_3 l0_3 A0_4 c0_4 l0_4 a0_0 a0_1 l0_2 l0_3 l0_4 _ (Kd.C_below HR2.out HB2.out) HC2.out (Kd.C_below HR3.out HB2.out) HC3.out (Kd.C_below HR4.out HB2.out) HC4.out HCR.out).mono ?_); rintro e w3 ⟨v2, v3, v4, rfl, ho2, ho3, ho4, hb⟩; obtain ⟨A2, c2, rfl, hc2, hC2⟩ := Kd.R_reads ho2; obtain ⟨A3, c3, rfl, hc3, hC3⟩ := Kd.R_reads ho3; obtain ⟨A4, c4, rfl, hc4, hC4⟩ := Kd.R_reads ho4; have HO2 := Aside0.mk (Kd.R_lower ho2 HB2.out.size); have HO3 := Aside0.mk (Kd.R_lower ho3 HB2.out.size); have HO4 := Aside0.mk (Kd.R_lower ho4 HB2.out.size); have HL2 := Aside0.mk hc2; have HL3 := Aside0.mk hc3; have HK2 := Aside0.mk hC2; have HK3 := Aside0.mk hC3; have D4 := Aside0.mk (blk_below C4.out hb); have HB3 := Aside0.mk (below_step HB2.out hb); have HS3 := Aside0.mk (show w.heap.size + 1 < w3.heap.size from blk_lt D4.out); clear hb ho2 ho3 ho4 hc2 hc3 hc4 hC2 hC3 hC4 p0 p1 p2 p3 p4 q0 q1 q2 q3 q4 r0 r1 r2 r3 r4 t0 t1 t2 t3 t4; have BN := Aside0.mk (blk_new w3 (.cells #[.int .i64 a0_0, .int .i64 a0_1, .slice A2 l0_2.length c2, .slice A3 l0_3.length c3, .slice A4 l0_4.length c4] 75)); obtain ⟨g2, cx, hv, _, _, _⟩ := own_form HO3.out (Nat.lt_of_le_of_lt (Nat.zero_le _) HII.out); injection hv with hv1 hvl hv2; subst hv1; subst hv2; clear hvl; have HPT := Aside0.mk (show itemPtr A2 l0_2 (some ⟨g2, 0, none⟩) l0_3 a1 = some ⟨g2, i * 3, none⟩ by unfold itemPtr; rw [if_neg (Int.not_le.mpr HX2.out), if_pos (by rw [HXX.out]; omega), HXX.out]; rw [Option.map_some, Int.toNat_natCast, add_plain])) | ((with_reducible refine gate_dst (N := 28) rfl ?_); refine Kd.R_lit Kd.string _ 9 ?hg (N := 28) ?hd (xs := ([] : List ByteArray)) (inner := []) (ok := fun _ => True) (okp := fun _ => True) ?hr ?hp (fun _ hk => hk) trivial (Below.refl _ _) (Nat.le_refl _) (by simp) ?_; (case hd => rfl); (case hg => rfl); (case hr => first | (go_simp; done) | (go_simp; rfl)); (case hp => exact (Reps.none _ _)); intro vg w4 hog hb hgx hnew; clear hgx hnew; have E4 := Aside0.mk (blk_below (blk_alloc D4.out _) hb); have EN := Aside0.mk (blk_below BN.out hb); have HB4 := Aside0.mk (below_step (HB3.out.alloc HB3.out.size _) hb); have HP2 := Aside0.mk (Kd.R_below (Kd.R_alloc HO2.out _) hb); have HP3 := Aside0.mk (Kd.R_below (Kd.R_alloc HO3.out _) hb); have HP4 := Aside0.mk (Kd.R_below (Kd.R_alloc HO4.out _) hb); have HQK2 := Aside0.mk (Kd.C_below (Kd.C_alloc HK2.out _) hb); have HQK3 := Aside0.mk (Kd.C_below (Kd.C_alloc HK3.out _) hb); have HG4 := Aside0.mk (Kd.R_lower hog (show w.heap.size ≤ (w3.alloc _).heap.size by have := HB3.out.size; simp; omega)); obtain ⟨Ag, cg, rfl⟩ := Kd.R_slice hog; clear hb hog) | (go_at_call 111; (with_reducible refine (item.calls w3.heap.size a0_0 a0_1 A2 c2 l0_2 (some ⟨g2, 0, none⟩) c3 l0_3 _ a1 _ EN.out HQK2.out HL2.out HQK3.out HL3.out).mono ?_); rw [HPT.out]; rintro e w5 ⟨rfl, hb⟩; have F4 := Aside0.mk (blk_below E4.out hb); have FN := Aside0.mk (blk_below EN.out hb); have HB5 := Aside0.mk (below_step HB4.out hb); have HT2 := Aside0.mk (Kd.R_below HP2.out hb); have HT3 := Aside0.mk (Kd.R_below HP3.out hb); have HT4 := Aside0.mk (Kd.R_below HP4.out hb); have HG5 := Aside0.mk (Kd.R_below HG4.out hb); clear hb; obtain ⟨⟨p0, p1, p2, p3, p4⟩, q0, q1, q2, q3, q4⟩ := cells5 FN.out; obtain ⟨⟨r0, r1, r2, r3, r4⟩, t0, t1, t2, t3, t4⟩ := cells5 F4.out; obtain ⟨x0, x1, x2⟩ := own_elem HT3.out i HII.out; rw [← HY.out] at x0 x1 x2; have xf := own_frozen HT3.out (i * 3 + 2); have xg := own_frozen HT3.out (i * 3 + 1); have n1 : (g2 ≠ w3.heap.size) := (fun he => by have h1 := Kd.R_ne HT3.out FN.out (by decide); rw [he] at h1; simp [Value.ownBlock] at h1); have n2 := n1.symm; have n3 : (g2 ≠ w.heap.size + 1) := (fun he => by have h1 := Kd.R_ne HT3.out F4.out (by decide); rw [he] at h1; simp [Value.ownBlock] at h1); have n4 := n3.symm; have n5 : w.heap.size + 1 ≠ w3.heap.size := Nat.ne_of_lt HS3.out; have n6 := n5.symm))
  obtain ⟨P1, P2⟩ := own_put1 HT3.out i HII.out a2
  obtain ⟨P3, P4⟩ := own_put2 P1 i (by rw [List.length_set]; exact HII.out) z
  have hset : ((l0_3.set i ⟨(rd_T120 l0_3 i).f0, a2, (rd_T120 l0_3 i).f2⟩).set i ⟨(rd_T120 (l0_3.set i ⟨(rd_T120 l0_3 i).f0, a2, (rd_T120 l0_3 i).f2⟩) i).f0, (rd_T120 (l0_3.set i ⟨(rd_T120 l0_3 i).f0, a2, (rd_T120 l0_3 i).f2⟩) i).f1, z⟩) = xs1 := by
    have hrd : rd_T120 (l0_3.set i ⟨(rd_T120 l0_3 i).f0, a2, (rd_T120 l0_3 i).f2⟩) i = ⟨(rd_T120 l0_3 i).f0, a2, (rd_T120 l0_3 i).f2⟩ := by simp [rd_T120, HII.out]
    rw [hrd, List.set_set, HX1.out, ← HY.out]
  rw [hset] at P3
  have P5 := P2.trans P4
  have E2 := Aside0.mk P3
  have E3 := Aside0.mk (Kd.R_grown HT2.out P5 (fun k hk => by simpa [Value.ownBlock] using hk))
  have hrow : ∀ k, some g2 = some k → ∃ cells, w5.heap[k]? = some (.cells cells 120 (0, 0)) := fun k hk => by injection hk with hk; subst hk; exact Kd.R_typed HT3.out g2 (by simp [Value.ownBlock])
  have E4 := Aside0.mk (R_grownT HT4.out P5 hrow (by decide))
  have EG := Aside0.mk (R_grownT HG5.out P5 hrow (by decide))
  have ER := Aside0.mk (blk_grown F4.out P5 (by have := Kd.R_ne HT3.out F4.out (by decide); simpa [Value.ownBlock] using this))
  have hbg := Kd.R_base HT3.out g2 (by simp [Value.ownBlock])
  have EB := (HB5.out.setCell (p := ⟨g2, i * 3 + 1, none⟩) hbg (.string a2)).setCell (p := ⟨g2, i * 3 + 2, none⟩) hbg (.int .i64 z)
  refine bodyPost_ret (results_ctt rfl _ _ (w.heap.size + 1) 75 #[.int .i64 a0_0, .int .i64 a0_1, .slice A2 l0_2.length c2, .slice (some ⟨g2, 0, none⟩) l0_3.length c3, .slice A4 l0_4.length c4] (0, 0) _ rfl (put5 ER.out _ _ _ _ _) Try.underlying75 rfl (by kernel_rfl)) rfl ?_
  have KP := keep5 ((w5.setCell ⟨g2, i * 3 + 1, none⟩ (.string a2)).setCell ⟨g2, i * 3 + 2, none⟩ (.int .i64 z)) (w.heap.size + 1) (.int .i64 a0_0) (.int .i64 a0_1) (.slice A2 l0_2.length c2) (.slice (some ⟨g2, 0, none⟩) l0_3.length c3) (.slice A4 l0_4.length c4)
  exact ⟨_, _, _, _, rfl, R_keepG E3.out KP ER.out (by decide), R_keepG E2.out KP ER.out (by decide), R_keepG E4.out KP ER.out (by decide), R_keepG EG.out KP ER.out (by decide), below_put5 EB (by omega) _ _ _ _ _⟩
theorem contains_all (l : List Int) (A : Option Addr) (c : Nat) (x : Int) (b : Bool) (W : World) (hC : Kd.C (Kd.int .i64) W A l.length l) (hc : l.length ≤ c) (hl : l.length < 1000000) (hb : decide (x ∈ l) = b) :
    Calls Try.prog 107 #[.slice A l.length c, .int .i64 x] W fun e w' => e = .returned (.bool b) ∧ Drawn0 W w' :=
  contains_take l l.length (Nat.le_refl _) A c x b W hC hc hl (by rw [List.take_length]; exact hb)
theorem ThreeAt.blk {W : World} {g base : Nat} {cp mo : Int} {s m : List S120} {gh : List Int} (h : ThreeAt W g base cp mo s m gh) : ∃ cs, W.heap[g]? = some (.cells cs 75 (0, 0)) := by
  obtain ⟨V2, V3, V4, h0, _⟩ := h
  exact ⟨_, h0⟩
theorem ThreeAt.lens {W : World} {g base : Nat} {cp mo : Int} {s m : List S120} {gh : List Int} (h : ThreeAt W g base cp mo s m gh) : ∃ A2 c2 A3 c3 A4 c4, W.heap[g]? = some (.cells #[.int .i64 cp, .int .i64 mo, .slice A2 s.length c2, .slice A3 m.length c3, .slice A4 gh.length c4] 75 (0, 0)) ∧ Kd.Q k120 120 W base (fun k => True ∧ some k ≠ (Value.slice A3 m.length c3).ownBlock) (.slice A2 s.length c2) s ∧ Kd.Q k120 120 W base (fun k => True ∧ some k ≠ (Value.slice A2 s.length c2).ownBlock) (.slice A3 m.length c3) m ∧ Kd.Q (Kd.int .i64) 3 W base (fun _ => True) (.slice A4 gh.length c4) gh := by
  obtain ⟨V2, V3, V4, h0, h2, h3, h4⟩ := h
  obtain ⟨A2, c2, rfl, _⟩ := Kd.Q_slice h2
  obtain ⟨A3, c3, rfl, _⟩ := Kd.Q_slice h3
  obtain ⟨A4, c4, rfl, _⟩ := Kd.Q_slice h4
  exact ⟨A2, c2, A3, c3, A4, c4, h0, h2, h3, h4⟩
theorem ThreeAt.set_ {W : World} {g base : Nat} {cp mo : Int} {s m : List S120} {gh : List Int} (h : ThreeAt W g base cp mo s m gh) {g' t : Nat} {cs : Array Value} (hb : W.heap[g']? = some (.cells cs t (0, 0))) (hg : g ≠ g') (ht : 120 ≠ t ∧ 3 ≠ t) (j : Nat) (u : Value) : ThreeAt (W.setCell ⟨g', j, none⟩ u) g base cp mo s m gh := by
  obtain ⟨V2, V3, V4, h0, h2, h3, h4⟩ := h
  have e1 : ∀ q, q ∈ 120 :: k120.E → q ≠ t := fun q hq => by
    have : q = 120 := by simpa [k120, Kd.iso, Kd.pair, Kd.string, Kd.int, Kd.scalar] using hq
    omega
  have e2 : ∀ q, q ∈ 3 :: (Kd.int .i64).E → q ≠ t := fun q hq => by
    have : q = 3 := by simpa [Kd.int, Kd.scalar] using hq
    omega
  exact ⟨V2, V3, V4, blk_far h0 hg u, Kd.Q_set h2 hb e1 j u, Kd.Q_set h3 hb e1 j u, Kd.Q_set h4 hb e2 j u⟩
set_option maxHeartbeats 8000000 in
set_option maxRecDepth 100000 in
theorem impl_Put.new (k : Nat) (a0_0 a0_1 : Int) (A0_2 : Option Addr) (c0_2 : Nat) (l0_2 : List S120) (A0_3 : Option Addr) (c0_3 : Nat) (l0_3 : List S120) (A0_4 : Option Addr) (c0_4 : Nat) (l0_4 : List Int) (a1 a2 : ByteArray) (w : World) (hr0_2 : Kd.C k120 w A0_2 l0_2.length l0_2) (hc0_2 : l0_2.length ≤ c0_2) (hr0_3 : Kd.C k120 w A0_3 l0_3.length l0_3) (hc0_3 : l0_3.length ≤ c0_3) (hr0_4 : Kd.C (Kd.int .i64) w A0_4 l0_4.length l0_4) (hc0_4 : l0_4.length ≤ c0_4) (hok : impl_ThreeOk.f k a0_0 a0_1 l0_2 l0_3 l0_4 = some true) (hiok : impl_ItemOk.f k a1 a2 0 = some true) (hx2 : ¬ 0 ≤ ixOf l0_2 a1) (hx3 : ¬ 0 ≤ ixOf l0_3 a1) (qs qm : List S120) (qg : List Int) (qn : List ByteArray) (hev : evLoop k a0_0 a0_1 3 l0_2 l0_3 l0_4 [] = some (qs, qm, qg, qn)) (hh : Int) (hhs : impl_Hash.f k a1 = some hh) (rs rm : List S120) (rg : List Int) (hres : (if hh ∈ qg then (qs, qm ++ [⟨a1, a2, 0⟩], qg.filter (fun x => x != hh)) else (qs ++ [⟨a1, a2, 0⟩], qm, qg)) = (rs, rm, rg)) :
    Calls Try.prog 104 #[.agg #[.int .i64 a0_0, .int .i64 a0_1, .slice A0_2 l0_2.length c0_2, .slice A0_3 l0_3.length c0_3, .slice A0_4 l0_4.length c0_4], .string a1, .string a2] w fun e w' => ∃ v2_ v3_ v4_ v5_ : Value, e = .returned (.tuple #[.agg #[.int .i64 a0_0, .int .i64 a0_1, v2_, v3_, v4_], v5_, .bool true]) ∧ Kd.R k120 120 w' w.heap.size (fun k_ => some k_ ≠ (v3_ : Value).ownBlock) v2_ rs ∧ Kd.R k120 120 w' w.heap.size (fun k_ => some k_ ≠ (v2_ : Value).ownBlock) v3_ rm ∧ Kd.R (Kd.int .i64) 3 w' w.heap.size (fun _ => True) v4_ rg ∧ Kd.R Kd.string 9 w' w.heap.size (fun _ => True) v5_ qn ∧ Below w.heap.size w w' := by
  have HR2 := Aside0.mk hr0_2
  have HC2 := Aside0.mk hc0_2
  have HR3 := Aside0.mk hr0_3
  have HC3 := Aside0.mk hc0_3
  have HR4 := Aside0.mk hr0_4
  have HC4 := Aside0.mk hc0_4
  clear hr0_2 hc0_2 hr0_3 hc0_3 hr0_4 hc0_4
  have HCR := Aside0.mk (show impl_copyThree.f a0_0 a0_1 l0_2 l0_3 l0_4 = some (a0_0, a0_1, l0_2, l0_3, l0_4) by
    have hl := ThreeOk_len hok
    unfold impl_copyThree.f impl_copyItems.f impl_copyInts.f
    rw [if_pos (by omega), Option.bind_some, if_pos (by omega), Option.bind_some, if_pos (by omega)]; rfl)
  have OK := Aside0.mk hok
  have IOK := Aside0.mk hiok
  have HTT := Aside0.mk (ThreeOk_true hok)
  clear hok hiok
  have HX2 := Aside0.mk (Int.not_le.mp hx2)
  have HX3 := Aside0.mk (Int.not_le.mp hx3)
  have HEVL := Aside0.mk hev
  have HHS := Aside0.mk hhs
  have HRES := Aside0.mk hres
  clear hx2 hx3 hev hhs hres
  have BK1 := Aside0.mk (blk_alloc (blk_new w (.cells #[.int .i64 a0_0, .int .i64 a0_1, .slice A0_2 l0_2.length c0_2, .slice A0_3 l0_3.length c0_3, .slice A0_4 l0_4.length c0_4] 75)) (.cells #[.int .i64 0, .int .i64 0, .slice none 0 0, .slice none 0 0, .slice none 0 0] 75))
  have BK4 := Aside0.mk (show ((w.alloc (.cells #[.int .i64 a0_0, .int .i64 a0_1, .slice A0_2 l0_2.length c0_2, .slice A0_3 l0_3.length c0_3, .slice A0_4 l0_4.length c0_4] 75)).alloc (.cells #[.int .i64 0, .int .i64 0, .slice none 0 0, .slice none 0 0, .slice none 0 0] 75)).heap[w.heap.size + 1]? = some (.cells #[.int .i64 0, .int .i64 0, .slice none 0 0, .slice none 0 0, .slice none 0 0] 75 (0, 0)) by have z := blk_new (w.alloc (.cells #[.int .i64 a0_0, .int .i64 a0_1, .slice A0_2 l0_2.length c0_2, .slice A0_3 l0_3.length c0_3, .slice A0_4 l0_4.length c0_4] 75)) (.cells #[.int .i64 0, .int .i64 0, .slice none 0 0, .slice none 0 0, .slice none 0 0] 75); simpa using z)
  have BKB := Aside0.mk (((Below.refl w.heap.size w).alloc (Nat.le_refl _) (.cells #[.int .i64 a0_0, .int .i64 a0_1, .slice A0_2 l0_2.length c0_2, .slice A0_3 l0_3.length c0_3, .slice A0_4 l0_4.length c0_4] 75)).alloc (by simp) (.cells #[.int .i64 0, .int .i64 0, .slice none 0 0, .slice none 0 0, .slice none 0 0] 75))
  go_enter Try.func104, Try.ntmps104
  go_wp2_with (first | (go_at_call 49; (with_reducible refine (impl_ThreeOk.calls k a0_0 a0_1 A0_2 c0_2 l0_2 A0_3 c0_3 l0_3 A0_4 c0_4 l0_4 true _ (Kd.C_alloc (Kd.C_alloc HR2.out _) _) HC2.out (Kd.C_alloc (Kd.C_alloc HR3.out _) _) HC3.out (Kd.C_alloc (Kd.C_alloc HR4.out _) _) HC4.out OK.out).mono ?_); rintro e w1 ⟨rfl, hb⟩; have B1 := Aside0.mk (blk_below BK1.out hb); have B4 := Aside0.mk (blk_below BK4.out hb); have HB := Aside0.mk (below_step BKB.out hb); clear hb; obtain ⟨⟨p0, p1, p2, p3, p4⟩, q0, q1, q2, q3, q4⟩ := cells5 B1.out; obtain ⟨⟨r0, r1, r2, r3, r4⟩, t0, t1, t2, t3, t4⟩ := cells5 B4.out) | (go_at_call 78; (with_reducible refine (impl_ItemOk.calls k a1 a2 0 true _ IOK.out).mono ?_); rintro e w2 ⟨rfl, hb⟩; have C1 := Aside0.mk (blk_below B1.out hb); have C4 := Aside0.mk (blk_below B4.out hb); have HB2 := Aside0.mk (below_step HB.out hb); clear hb p0 p1 p2 p3 p4 q0 q1 q2 q3 q4 r0 r1 r2 r3 r4 t0 t1 t2 t3 t4; obtain ⟨⟨p0, p1, p2, p3, p4⟩, q0, q1, q2, q3, q4⟩ := cells5 C1.out; obtain ⟨⟨r0, r1, r2, r3, r4⟩, t0, t1, t2, t3, t4⟩ := cells5 C4.out) | (go_at_call 110; (with_reducible refine (impl_copyThree.calls a0_0 a0_1 A0_2 c0_2 l0_2 A0_3 c0_3 l0_3 A0_4 c0_4 l0_4 a0_0 a0_1 l0_2 l0_3 l0_4 _ (Kd.C_below HR2.out HB2.out) HC2.out (Kd.C_below HR3.out HB2.out) HC3.out (Kd.C_below HR4.out HB2.out) HC4.out HCR.out).mono ?_); rintro e w3 ⟨v2, v3, v4, rfl, ho2, ho3, ho4, hb⟩; obtain ⟨A2, c2, rfl, hc2, hC2⟩ := Kd.R_reads ho2; obtain ⟨A3, c3, rfl, hc3, hC3⟩ := Kd.R_reads ho3; obtain ⟨A4, c4, rfl, hc4, hC4⟩ := Kd.R_reads ho4; have HO2 := Aside0.mk (Kd.R_lower ho2 HB2.out.size); have HO3 := Aside0.mk (Kd.R_lower ho3 HB2.out.size); have HO4 := Aside0.mk (Kd.R_lower ho4 HB2.out.size); have HL2 := Aside0.mk hc2; have HL3 := Aside0.mk hc3; have HK2 := Aside0.mk hC2; have HK3 := Aside0.mk hC3; have D4 := Aside0.mk (blk_below C4.out hb); have HB3 := Aside0.mk (below_step HB2.out hb); have HS3 := Aside0.mk (show w.heap.size + 1 < w3.heap.size from blk_lt D4.out); clear hb ho2 ho3 ho4 hc2 hc3 hc4 hC2 hC3 hC4 p0 p1 p2 p3 p4 q0 q1 q2 q3 q4 r0 r1 r2 r3 r4 t0 t1 t2 t3 t4; have BN := Aside0.mk (blk_new w3 (.cells #[.int .i64 a0_0, .int .i64 a0_1, .slice A2 l0_2.length c2, .slice A3 l0_3.length c3, .slice A4 l0_4.length c4] 75)); have HPT := Aside0.mk (show itemPtr A2 l0_2 A3 l0_3 a1 = none by unfold itemPtr; rw [if_neg (Int.not_le.mpr HX2.out), if_neg (Int.not_le.mpr HX3.out)])) | ((with_reducible refine gate_dst (N := 28) rfl ?_); refine Kd.R_lit Kd.string _ 9 ?hg (N := 28) ?hd (xs := ([] : List ByteArray)) (inner := []) (ok := fun _ => True) (okp := fun _ => True) ?hr ?hp (fun _ hk => hk) trivial (Below.refl _ _) (Nat.le_refl _) (by simp) ?_; (case hd => rfl); (case hg => rfl); (case hr => first | (go_simp; done) | (go_simp; rfl)); (case hp => exact (Reps.none _ _)); intro vg w4 hog hb hgx hnew; clear hgx hnew; have E4 := Aside0.mk (blk_below (blk_alloc D4.out _) hb); have EN := Aside0.mk (blk_below BN.out hb); have HB4 := Aside0.mk (below_step (HB3.out.alloc HB3.out.size _) hb); have HP2 := Aside0.mk (Kd.R_below (Kd.R_alloc HO2.out _) hb); have HP3 := Aside0.mk (Kd.R_below (Kd.R_alloc HO3.out _) hb); have HP4 := Aside0.mk (Kd.R_below (Kd.R_alloc HO4.out _) hb); have HQK2 := Aside0.mk (Kd.C_below (Kd.C_alloc HK2.out _) hb); have HQK3 := Aside0.mk (Kd.C_below (Kd.C_alloc HK3.out _) hb); have HG4 := Aside0.mk (Kd.R_lower hog (show w.heap.size ≤ (w3.alloc _).heap.size by have := HB3.out.size; simp; omega)); obtain ⟨Ag, cg, rfl⟩ := Kd.R_slice hog; clear hb hog) | (go_at_call 111; (with_reducible refine (item.calls w3.heap.size a0_0 a0_1 A2 c2 l0_2 A3 c3 l0_3 _ a1 _ EN.out HQK2.out HL2.out HQK3.out HL3.out).mono ?_); rw [HPT.out]; rintro e w5 ⟨rfl, hb⟩; have F4 := Aside0.mk (blk_below E4.out hb); have FN := Aside0.mk (blk_below EN.out hb); have HB5 := Aside0.mk (below_step HB4.out hb); have HT2 := Aside0.mk (Kd.R_below HP2.out hb); have HT3 := Aside0.mk (Kd.R_below HP3.out hb); have HT4 := Aside0.mk (Kd.R_below HP4.out hb); have HG5 := Aside0.mk (Kd.R_below HG4.out hb); clear hb; obtain ⟨⟨p0, p1, p2, p3, p4⟩, q0, q1, q2, q3, q4⟩ := cells5 FN.out; obtain ⟨⟨r0, r1, r2, r3, r4⟩, t0, t1, t2, t3, t4⟩ := cells5 F4.out))
  have HTA : Aside0 (ThreeAt w5 w3.heap.size w.heap.size a0_0 a0_1 l0_2 l0_3 l0_4) := ⟨⟨_, _, _, FN.out, Kd.Q_mono (Kd.Q_of_R HT2.out) (fun k hk => ⟨trivial, hk⟩), Kd.Q_mono (Kd.Q_of_R HT3.out) (fun k hk => ⟨trivial, hk⟩), Kd.Q_of_R HT4.out⟩⟩
  have HN5 : Aside0 (w.heap.size + 1 ≠ w3.heap.size) := ⟨Nat.ne_of_lt HS3.out⟩
  have HGB : Aside0 (w.heap.size ≤ w3.heap.size) := ⟨Nat.le_of_lt (Nat.lt_of_succ_lt HS3.out)⟩
  have HBS0 : Aside0 (w.heap.size ≤ w5.heap.size) := ⟨HB5.out.size⟩
  have HLEN : Aside0 (l0_2.length + l0_3.length ≤ 60 ∧ l0_4.length ≤ 60) := ⟨by have := HTT.out; omega⟩
  clear p0 p1 p2 p3 p4 q0 q1 q2 q3 q4 r0 r1 r2 r3 r4 t0 t1 t2 t3 t4 HT2 HT3 HT4 FN HPT HP2 HP3 HP4 HG4 HQK2 HQK3 E4 EN HB4 HO2 HO3 HO4 HL2 HL3 HK2 HK3 D4 HB3 BN C1 C4 HB2 B1 B4 HB BK1 BK4 BKB OK IOK HCR
  go_loopg [10] 3 (fun kq v10 w' => ∃ (s m : List S120) (gh : List Int) (gone : List ByteArray) (Ag : Option Addr) (cg : Nat), v10 = .slice Ag gone.length cg ∧ Aside0 (evLoop k a0_0 a0_1 kq s m gh gone = some (qs, qm, qg, qn)) ∧ Aside0 (s.length + m.length ≤ 60 ∧ gh.length + kq ≤ 63) ∧ Aside0 (gone.length + kq ≤ 3) ∧ Aside0 (ThreeAt w' w3.heap.size w.heap.size a0_0 a0_1 s m gh) ∧ Aside0 (Kd.R Kd.string 9 w' w.heap.size (fun _ => True) (.slice Ag gone.length cg) gone) ∧ Aside0 (w'.heap[w.heap.size + 1]? = some (.cells #[.int .i64 0, .int .i64 0, .slice none 0 0, .slice none 0 0, .slice none 0 0] 75 (0, 0))) ∧ Aside0 (Below w.heap.size w w') ∧ Aside0 (w.heap.size ≤ w'.heap.size))
  case atStart => exact ⟨l0_2, l0_3, l0_4, ([] : List ByteArray), Ag, cg, rfl, HEVL, ⟨by have := HLEN.out; omega⟩, ⟨by simp⟩, HTA, HG5, F4, HB5, HBS0⟩
  case round =>
    clear HEVL HTA HG5 F4 HB5 HBS0 HLEN
    obtain ⟨s, m, gh, gone, Ag, cg, rfl, HA, HLEN, HGL, HT, HG, HR, HB, HBS⟩ := hrel
    obtain ⟨A2, c2, A3, c3, A4, c4, hb, hq2, hq3, hq4⟩ := HT.out.lens
    obtain ⟨⟨p0, p1, p2, p3, p4⟩, q0, q1, q2, q3, q4⟩ := cells5 hb
    have HBK := Aside0.mk hb
    have HQ2 := Aside0.mk hq2
    have HQ3 := Aside0.mk hq3
    have HQ4 := Aside0.mk hq4
    clear hb hq2 hq3 hq4
    have hw : wrap64 ((s.length : Int) + (m.length : Int)) = (s.length : Int) + (m.length : Int) := by have := HLEN.out; unfold wrap64; omega
    have hcnt : ∀ n : Nat, wrap64 (n : Int) = wrap64 (n : Int) := fun _ => rfl
    clear hcnt
    cases gk with
    | zero => exact absurd HA.out (by simp [evLoop])
    | succ k1 =>
      have ha := HA.out
      unfold evLoop at ha
      by_cases hc : a0_0 ≤ (s.length : Int) + (m.length : Int)
      · rw [if_pos hc] at ha
        obtain ⟨⟨s1, m1, gh1, key1, ok1⟩, h1, h2⟩ := Option.bind_eq_some_iff.mp ha
        have HEV := Aside0.mk h1
        have HNX := Aside0.mk h2
        have hle := goEvict_len h1
        have HLN : Aside0 (s1.length + m1.length ≤ s.length + m.length ∧ gh1.length ≤ gh.length + 1) := ⟨hle⟩
        have hd : decide (a0_0 ≤ wrap64 ((s.length : Int) + (m.length : Int))) = true := by rw [hw]; exact decide_eq_true hc
        have HLL : Aside0 (s.length + m.length < 1000000 ∧ gh.length < 900000) := ⟨by have := HLEN.out; omega⟩
        clear ha h1 h2 hle hc HA hw HQ2 HQ3 HQ4 HBK
        go_wp2_with (first | (go_at_call 159; (with_reducible refine (evict.calls k w3.heap.size w.heap.size a0_0 a0_1 s m gh s1 m1 gh1 key1 ok1 w _ HT.out HB.out HGB.out HBS.out HLL.out HEV.out).mono ?_); rintro e w6 ⟨rfl, ht, hb, hf⟩; have HT1 := Aside0.mk ht; have HB1 := Aside0.mk hb; have HG1 := Aside0.mk (R_FrT HG.out hf HT.out.blk.choose_spec (by decide) (by decide)); have HR1 := Aside0.mk (blk_FrT HR.out hf HN5.out (by decide) (by decide)); have HBS1 := Aside0.mk (Nat.le_trans HBS.out hf.1); clear ht hb hf) | ((with_reducible refine gate_builtin (b := .append) (xs := #[.tmp 62, .tmp 64]) rfl ?_); at_builtin; refine Kd.R_append Kd.string (w0 := w) w.heap.size rfl (.tmp 62) (.tmp 64) 23 9 (.string ⟨#[]⟩) 16 rfl Try.underlying23 info9 rfl (by decide) (by omega) (.slice Ag gone.length cg) gone key1 [.string key1] (fun _ => True) (fun _ => False) rfl rfl ?gP (fun _ hk => hk.elim) ?gF ?gO ?gB ?gS ?gL ?_; (case gP => exact rfl); (case gF => exact (fun _ _ => trivial)); (case gO => exact HG1.out); (case gB => exact HB1.out); (case gS => exact HBS1.out); (case gL => have := HGL.out; omega); intro v8 w8 ho hb hg hat; obtain ⟨A8, c8, rfl⟩ := Kd.R_slice ho; have HG2 := Aside0.mk ho; have HB2 := Aside0.mk hb; have HT2 := Aside0.mk (HT1.out.grown hg (Kd.R_typed HG1.out)); have HR2 := Aside0.mk (blk_grown HR1.out hg (Kd.R_ne HG1.out HR1.out (by decide))); have HBS2 := Aside0.mk (Nat.le_trans HBS1.out hg.size); clear ho hb hg hat))
        go_roundg k1
        case measure => omega
        case rel => exact ⟨s1, m1, gh1, gone ++ [key1], A8, c8, by rw [List.length_append]; rfl, HNX, ⟨by have h1_ := HLEN.out; have h2_ := HLN.out; omega⟩, ⟨by have := HGL.out; simp; omega⟩, HT2, HG2, HR2, HB2, HBS2⟩
      · rw [if_neg hc] at ha
        simp only [Option.some.injEq, Prod.mk.injEq] at ha
        obtain ⟨rfl, rfl, rfl, rfl⟩ := ha
        have hd : decide (a0_0 ≤ wrap64 ((s.length : Int) + (m.length : Int))) = false := by rw [hw]; exact decide_eq_false hc
        clear hc HA hw
        have HGHL : Aside0 (gh.length < 1000000) := ⟨by have := HLEN.out; omega⟩
        by_cases hin : hh ∈ gh
        · have HIN := Aside0.mk (show decide (hh ∈ gh) = true from decide_eq_true hin)
          have hres := HRES.out
          rw [if_pos hin] at hres
          simp only [Prod.mk.injEq] at hres
          obtain ⟨he2, he3, he4⟩ := hres
          obtain ⟨zs, hzs⟩ : ∃ z : List S120, z = m ++ [⟨a1, a2, 0⟩] := ⟨_, rfl⟩
          rw [← hzs] at he3
          have HZL := Aside0.mk hzs
          have HE2 := Aside0.mk he2
          have HE3 := Aside0.mk he3
          have HE4 := Aside0.mk he4
          have HZLL : Aside0 (zs.length = m.length + 1) := ⟨by rw [hzs]; simp⟩
          have HCR2 := Aside0.mk (show impl_copyThree.f a0_0 a0_1 s zs (gh.filter (fun x => x != hh)) = some (a0_0, a0_1, s, zs, (gh.filter (fun x => x != hh))) by
            have hl := HLEN.out
            have hz := HZLL.out
            have hf := List.length_filter_le (fun x => x != hh) gh
            unfold impl_copyThree.f impl_copyItems.f impl_copyInts.f
            rw [if_pos (by omega), Option.bind_some, if_pos (by omega), Option.bind_some, if_pos (by omega)]; rfl)
          clear hin he2 he3 he4 hzs HRES
          go_wp2_with (first | (go_at_call 160; (with_reducible refine (impl_Hash.calls k a1 hh _ HHS.out).mono ?_); rintro e w6 ⟨rfl, ⟨nd, rfl⟩⟩; replace HBK := Aside0.mk (blk_drewN HBK.out nd); replace HQ2 := Aside0.mk (Kd.Q_drewN HQ2.out nd); replace HQ3 := Aside0.mk (Kd.Q_drewN HQ3.out nd); replace HQ4 := Aside0.mk (Kd.Q_drewN HQ4.out nd); replace HG := Aside0.mk (Kd.R_drewN HG.out nd); replace HR := Aside0.mk (blk_drewN HR.out nd); replace HB := Aside0.mk (pw_below_drewN HB.out nd); replace HBS := Aside0.mk (show w.heap.size ≤ (wr.drewN nd).heap.size from HBS.out); clear p0 p1 p2 p3 p4 q0 q1 q2 q3 q4 HT; generalize wr.drewN nd = Wd at *; have HW6 := Aside0.mk (blk_alloc HBK.out (.cells #[.int .i64 hh] 3)); have X2 := Aside0.mk (Kd.Q_alloc HQ2.out (.cells #[.int .i64 hh] 3)); have X3 := Aside0.mk (Kd.Q_alloc HQ3.out (.cells #[.int .i64 hh] 3)); have X4 := Aside0.mk (Kd.Q_alloc HQ4.out (.cells #[.int .i64 hh] 3)); have XG := Aside0.mk (Kd.R_alloc HG.out (.cells #[.int .i64 hh] 3)); have XR := Aside0.mk (blk_alloc HR.out (.cells #[.int .i64 hh] 3)); have XB := Aside0.mk (HB.out.alloc HBS.out (.cells #[.int .i64 hh] 3)); have XS := Aside0.mk (show w.heap.size ≤ (Wd.alloc (.cells #[.int .i64 hh] 3)).heap.size by rw [World.size_alloc]; exact Nat.le_succ_of_le HBS.out); have XH := Aside0.mk (blk_new Wd (.cells #[.int .i64 hh] 3)); have XC4 := Aside0.mk (Kd.Q_reads' X4.out).2.2; have XL4 := Aside0.mk (Kd.Q_reads' X4.out).2.1; have XNE := Aside0.mk (show some Wd.heap.size ≠ (Value.slice A4 gh.length c4).ownBlock from fun he => by have := Kd.Q_lt HQ4.out _ he.symm; omega); have n7 := Nat.ne_of_lt (blk_lt HBK.out); have n8 := n7.symm; clear HQ2 HQ3 HQ4 HBK HG HR HB HBS; obtain ⟨⟨p0, p1, p2, p3, p4⟩, q0, q1, q2, q3, q4⟩ := cells5 HW6.out) | (go_at_call 107; (with_reducible refine (contains_all gh A4 c4 hh true _ XC4.out XL4.out HGHL.out HIN.out).mono ?_); rintro e w7 ⟨rfl, ⟨nd2, rfl⟩⟩; replace HW6 := Aside0.mk (blk_drewN HW6.out nd2); replace X2 := Aside0.mk (Kd.Q_drewN X2.out nd2); replace X3 := Aside0.mk (Kd.Q_drewN X3.out nd2); replace X4 := Aside0.mk (Kd.Q_drewN X4.out nd2); replace XG := Aside0.mk (Kd.R_drewN XG.out nd2); replace XR := Aside0.mk (blk_drewN XR.out nd2); replace XB := Aside0.mk (pw_below_drewN XB.out nd2); replace XS := Aside0.mk (show w.heap.size ≤ ((Wd.alloc (.cells #[.int .i64 hh] 3)).drewN nd2).heap.size from XS.out); replace XH := Aside0.mk (blk_drewN XH.out nd2); clear p0 p1 p2 p3 p4 q0 q1 q2 q3 q4; obtain ⟨⟨p0, p1, p2, p3, p4⟩, q0, q1, q2, q3, q4⟩ := cells5 HW6.out) | (go_at_call 161; (with_reducible refine (delI162.own A4 c4 w.heap.size Wd.heap.size gh hh (fun _ => True) w _ X4.out ((blk_cell XH.out 0).trans rfl) XNE.out XB.out XS.out HGHL.out).mono ?_); rintro e w8 ⟨vf, rfl, ho, hb, hg, hvo⟩; obtain ⟨Af, cf, rfl, _⟩ := Kd.Q_slice ho; have HTY := Kd.Q_typed X4.out; have U2 := Q_grownT X2.out hg HTY (by decide); have U3 := Q_grownT X3.out hg HTY (by decide); have UN := blk_grown HW6.out hg (Kd.Q_ne X4.out HW6.out (by decide)); have UR := blk_grown XR.out hg (Kd.Q_ne X4.out XR.out (by decide)); have UG := R_grownT XG.out hg HTY (by decide); have US := Nat.le_trans XS.out hg.size; have Y2 := Aside0.mk (Kd.Q_set U2 UN (by decide) 4 (.slice Af (gh.filter (fun x => x != hh)).length cf)); have Y3 := Aside0.mk (Kd.Q_set U3 UN (by decide) 4 (.slice Af (gh.filter (fun x => x != hh)).length cf)); have Y4 := Aside0.mk (Kd.Q_set ho UN (by decide) 4 (.slice Af (gh.filter (fun x => x != hh)).length cf)); have YG := Aside0.mk (Kd.R_set UG UN (by decide) 4 (.slice Af (gh.filter (fun x => x != hh)).length cf)); have YN := Aside0.mk (blk_put UN 4 (.slice Af (gh.filter (fun x => x != hh)).length cf) rfl); have YR := Aside0.mk (blk_far UR (p := ⟨w3.heap.size, 4, none⟩) HN5.out (.slice Af (gh.filter (fun x => x != hh)).length cf)); have YB := Aside0.mk (hb.setCell (p := ⟨w3.heap.size, 4, none⟩) HGB.out (.slice Af (gh.filter (fun x => x != hh)).length cf)); have YS := Aside0.mk (show w.heap.size ≤ (w8.setCell ⟨w3.heap.size, 4, none⟩ (.slice Af (gh.filter (fun x => x != hh)).length cf)).heap.size by simpa [World.setCell] using US); clear p0 p1 p2 p3 p4 q0 q1 q2 q3 q4 X2 X3 X4 XG HW6 XR XB XS XH XC4 XL4 XNE HTY hvo hg hb ho; obtain ⟨⟨p0, p1, p2, p3, p4⟩, q0, q1, q2, q3, q4⟩ := cells5 UN; obtain ⟨⟨s0_, s1_, s2_, s3_, s4_⟩, f0_, f1_, f2_, f3_, f4_⟩ := cells5 YN.out; clear U2 U3 UN UR UG US) | ((with_reducible refine gate_builtin (b := .append) (xs := #[.tmp 78, .tmp 82]) rfl ?_); at_builtin; refine Kd.Q_append k120 (w0 := w) w.heap.size rfl (.tmp 78) (.tmp 82) 32 120 (.agg #[(.string ⟨#[]⟩), (.string ⟨#[]⟩), (.int .i64 0)]) 40 rfl Try.underlying32 info120 rfl (by decide) (by omega) (.slice A3 m.length c3) m ⟨a1, a2, 0⟩ [.string a1, .string a2, .int .i64 0] (fun k => True ∧ some k ≠ (Value.slice A2 s.length c2).ownBlock) (fun _ => False) rfl (by first | rfl | (refine Eq.trans (b := Value.slice (some ⟨w8.heap.size, 0, none⟩) 1 1) rfl ?_; simp [World.setCell]) | (refine Eq.trans (b := Value.slice (some ⟨Wd.heap.size + 1, 0, none⟩) 1 1) rfl ?_; simp)) (k120_mkM _ _ _ ⟨a1, a2, 0⟩) (fun _ hk => hk.elim) (fun k hk => ⟨trivial, fun he => Nat.not_le.2 (Kd.Q_lt Y2.out k he.symm) hk⟩) Y3.out YB.out YS.out (by have := HLEN.out; omega) ?_; intro v9 w9 ho hb hg hat; rw [← HZL.out] at ho; obtain ⟨A9, c9, rfl, _⟩ := Kd.Q_slice ho; have HTY := Kd.Q_typed Y3.out; have U2 := Kd.Q_after Y2.out hg hat; have U4 := Q_grownT Y4.out hg HTY (by decide); have UN := blk_grown YN.out hg (Kd.Q_ne Y3.out YN.out (by decide)); have UR := blk_grown YR.out hg (Kd.Q_ne Y3.out YR.out (by decide)); have UG := R_grownT YG.out hg HTY (by decide); have US := Nat.le_trans YS.out hg.size; have Z2 := Aside0.mk (Kd.Q_set U2 UN (by decide) 3 (.slice A9 zs.length c9)); have Z3 := Aside0.mk (Kd.Q_set ho UN (by decide) 3 (.slice A9 zs.length c9)); have Z4 := Aside0.mk (Kd.Q_set U4 UN (by decide) 3 (.slice A9 zs.length c9)); have ZG := Aside0.mk (Kd.R_set UG UN (by decide) 3 (.slice A9 zs.length c9)); have ZN := Aside0.mk (blk_put UN 3 (.slice A9 zs.length c9) rfl); have ZR := Aside0.mk (blk_far UR (p := ⟨w3.heap.size, 3, none⟩) HN5.out (.slice A9 zs.length c9)); have ZB := Aside0.mk (hb.setCell (p := ⟨w3.heap.size, 3, none⟩) HGB.out (.slice A9 zs.length c9)); have ZS := Aside0.mk (show w.heap.size ≤ (w9.setCell ⟨w3.heap.size, 3, none⟩ (.slice A9 zs.length c9)).heap.size by simpa [World.setCell] using US); clear p0 p1 p2 p3 p4 q0 q1 q2 q3 q4 HTY hat hg hb ho U2 U4 UG US UR; obtain ⟨⟨p0, p1, p2, p3, p4⟩, q0, q1, q2, q3, q4⟩ := cells5 UN; obtain ⟨⟨u0_, u1_, u2_, u3_, u4_⟩, g0_, g1_, g2_, g3_, g4_⟩ := cells5 ZN.out; have ZK2 := Aside0.mk (Kd.Q_reads' Z2.out).2.2; have ZK3 := Aside0.mk (Kd.Q_reads' Z3.out).2.2; have ZK4 := Aside0.mk (Kd.Q_reads' Z4.out).2.2; have ZL2 := Aside0.mk (Kd.Q_reads' Z2.out).2.1; have ZL3 := Aside0.mk (Kd.Q_reads' Z3.out).2.1; have ZL4 := Aside0.mk (Kd.Q_reads' Z4.out).2.1; clear UN) | (go_at_call 110; (with_reducible refine (impl_copyThree.calls a0_0 a0_1 A2 c2 s A9 c9 zs Af cf (gh.filter (fun x => x != hh)) a0_0 a0_1 s zs (gh.filter (fun x => x != hh)) _ ZK2.out ZL2.out ZK3.out ZL3.out ZK4.out ZL4.out HCR2.out).mono ?_); rintro e w10 ⟨y2, y3, y4, rfl, ho2, ho3, ho4, hb⟩; obtain ⟨B2, d2, rfl⟩ := Kd.R_slice ho2; obtain ⟨B3, d3, rfl⟩ := Kd.R_slice ho3; obtain ⟨B4_, d4, rfl⟩ := Kd.R_slice ho4; have M2 := Aside0.mk (Kd.R_lower ho2 ZS.out); have M3 := Aside0.mk (Kd.R_lower ho3 ZS.out); have M4 := Aside0.mk (Kd.R_lower ho4 ZS.out); have MG := Aside0.mk (Kd.R_below ZG.out hb); have MR := Aside0.mk (blk_below ZR.out hb); have MB := Aside0.mk (below_then ZB.out ZS.out hb); clear ho2 ho3 ho4 hb; obtain ⟨⟨r0, r1, r2, r3, r4⟩, t0, t1, t2, t3, t4⟩ := cells5 MR.out))
          refine bodyPost_ret (results_ctt rfl _ _ (w.heap.size + 1) 75 #[.int .i64 a0_0, .int .i64 a0_1, .slice B2 s.length d2, .slice B3 zs.length d3, .slice B4_ (gh.filter (fun x => x != hh)).length d4] (0, 0) _ rfl (put5 MR.out _ _ _ _ _) Try.underlying75 rfl (by kernel_rfl)) rfl ?_
          have KP := keep5 w10 (w.heap.size + 1) (.int .i64 a0_0) (.int .i64 a0_1) (.slice B2 s.length d2) (.slice B3 zs.length d3) (.slice B4_ (gh.filter (fun x => x != hh)).length d4)
          exact ⟨_, _, _, _, rfl, by rw [← HE2.out]; exact R_keepG M2.out KP MR.out (by decide), by rw [← HE3.out]; exact R_keepG M3.out KP MR.out (by decide), by rw [← HE4.out]; exact R_keepG M4.out KP MR.out (by decide), R_keepG MG.out KP MR.out (by decide), below_put5 MB.out (by omega) _ _ _ _ _⟩
        · have HIN := Aside0.mk (show decide (hh ∈ gh) = false from decide_eq_false hin)
          have hres := HRES.out
          rw [if_neg hin] at hres
          simp only [Prod.mk.injEq] at hres
          obtain ⟨he2, he3, he4⟩ := hres
          obtain ⟨zs, hzs⟩ : ∃ z : List S120, z = s ++ [⟨a1, a2, 0⟩] := ⟨_, rfl⟩
          rw [← hzs] at he2
          have HZL := Aside0.mk hzs
          have HE2 := Aside0.mk he2
          have HE3 := Aside0.mk he3
          have HE4 := Aside0.mk he4
          have HZLL : Aside0 (zs.length = s.length + 1) := ⟨by rw [hzs]; simp⟩
          have HCR2 := Aside0.mk (show impl_copyThree.f a0_0 a0_1 zs m gh = some (a0_0, a0_1, zs, m, gh) by
            have hl := HLEN.out
            have hz := HZLL.out
            have hf := List.length_filter_le (fun x => x != hh) gh
            unfold impl_copyThree.f impl_copyItems.f impl_copyInts.f
            rw [if_pos (by omega), Option.bind_some, if_pos (by omega), Option.bind_some, if_pos (by omega)]; rfl)
          clear hin he2 he3 he4 hzs HRES
          go_wp2_with (first | (go_at_call 160; (with_reducible refine (impl_Hash.calls k a1 hh _ HHS.out).mono ?_); rintro e w6 ⟨rfl, ⟨nd, rfl⟩⟩; replace HBK := Aside0.mk (blk_drewN HBK.out nd); replace HQ2 := Aside0.mk (Kd.Q_drewN HQ2.out nd); replace HQ3 := Aside0.mk (Kd.Q_drewN HQ3.out nd); replace HQ4 := Aside0.mk (Kd.Q_drewN HQ4.out nd); replace HG := Aside0.mk (Kd.R_drewN HG.out nd); replace HR := Aside0.mk (blk_drewN HR.out nd); replace HB := Aside0.mk (pw_below_drewN HB.out nd); replace HBS := Aside0.mk (show w.heap.size ≤ (wr.drewN nd).heap.size from HBS.out); clear p0 p1 p2 p3 p4 q0 q1 q2 q3 q4 HT; generalize wr.drewN nd = Wd at *; have HW6 := Aside0.mk (blk_alloc HBK.out (.cells #[.int .i64 hh] 3)); have X2 := Aside0.mk (Kd.Q_alloc HQ2.out (.cells #[.int .i64 hh] 3)); have X3 := Aside0.mk (Kd.Q_alloc HQ3.out (.cells #[.int .i64 hh] 3)); have X4 := Aside0.mk (Kd.Q_alloc HQ4.out (.cells #[.int .i64 hh] 3)); have XG := Aside0.mk (Kd.R_alloc HG.out (.cells #[.int .i64 hh] 3)); have XR := Aside0.mk (blk_alloc HR.out (.cells #[.int .i64 hh] 3)); have XB := Aside0.mk (HB.out.alloc HBS.out (.cells #[.int .i64 hh] 3)); have XS := Aside0.mk (show w.heap.size ≤ (Wd.alloc (.cells #[.int .i64 hh] 3)).heap.size by rw [World.size_alloc]; exact Nat.le_succ_of_le HBS.out); have XH := Aside0.mk (blk_new Wd (.cells #[.int .i64 hh] 3)); have XC4 := Aside0.mk (Kd.Q_reads' X4.out).2.2; have XL4 := Aside0.mk (Kd.Q_reads' X4.out).2.1; have XNE := Aside0.mk (show some Wd.heap.size ≠ (Value.slice A4 gh.length c4).ownBlock from fun he => by have := Kd.Q_lt HQ4.out _ he.symm; omega); have n7 := Nat.ne_of_lt (blk_lt HBK.out); have n8 := n7.symm; clear HQ2 HQ3 HQ4 HBK HG HR HB HBS; obtain ⟨⟨p0, p1, p2, p3, p4⟩, q0, q1, q2, q3, q4⟩ := cells5 HW6.out) | (go_at_call 107; (with_reducible refine (contains_all gh A4 c4 hh false _ XC4.out XL4.out HGHL.out HIN.out).mono ?_); rintro e w7 ⟨rfl, ⟨nd2, rfl⟩⟩; replace HW6 := Aside0.mk (blk_drewN HW6.out nd2); replace X2 := Aside0.mk (Kd.Q_drewN X2.out nd2); replace X3 := Aside0.mk (Kd.Q_drewN X3.out nd2); replace X4 := Aside0.mk (Kd.Q_drewN X4.out nd2); replace XG := Aside0.mk (Kd.R_drewN XG.out nd2); replace XR := Aside0.mk (blk_drewN XR.out nd2); replace XB := Aside0.mk (pw_below_drewN XB.out nd2); replace XS := Aside0.mk (show w.heap.size ≤ ((Wd.alloc (.cells #[.int .i64 hh] 3)).drewN nd2).heap.size from XS.out); replace XH := Aside0.mk (blk_drewN XH.out nd2); clear p0 p1 p2 p3 p4 q0 q1 q2 q3 q4; obtain ⟨⟨p0, p1, p2, p3, p4⟩, q0, q1, q2, q3, q4⟩ := cells5 HW6.out) | ((with_reducible refine gate_builtin (b := .append) (xs := #[.tmp 86, .tmp 90]) rfl ?_); at_builtin; refine Kd.Q_append k120 (w0 := w) w.heap.size rfl (.tmp 86) (.tmp 90) 32 120 (.agg #[(.string ⟨#[]⟩), (.string ⟨#[]⟩), (.int .i64 0)]) 40 rfl Try.underlying32 info120 rfl (by decide) (by omega) (.slice A2 s.length c2) s ⟨a1, a2, 0⟩ [.string a1, .string a2, .int .i64 0] (fun k => True ∧ some k ≠ (Value.slice A3 m.length c3).ownBlock) (fun _ => False) rfl (by first | rfl | (refine Eq.trans (b := Value.slice (some ⟨w8.heap.size, 0, none⟩) 1 1) rfl ?_; simp [World.setCell]) | (refine Eq.trans (b := Value.slice (some ⟨Wd.heap.size + 1, 0, none⟩) 1 1) rfl ?_; simp)) (k120_mkM _ _ _ ⟨a1, a2, 0⟩) (fun _ hk => hk.elim) (fun k hk => ⟨trivial, fun he => Nat.not_le.2 (Kd.Q_lt X3.out k he.symm) hk⟩) X2.out XB.out XS.out (by have := HLEN.out; omega) ?_; intro v9 w9 ho hb hg hat; rw [← HZL.out] at ho; obtain ⟨A9, c9, rfl, _⟩ := Kd.Q_slice ho; have HTY := Kd.Q_typed X2.out; have U2 := Kd.Q_after X3.out hg hat; have U4 := Q_grownT X4.out hg HTY (by decide); have UN := blk_grown HW6.out hg (Kd.Q_ne X2.out HW6.out (by decide)); have UR := blk_grown XR.out hg (Kd.Q_ne X2.out XR.out (by decide)); have UG := R_grownT XG.out hg HTY (by decide); have US := Nat.le_trans XS.out hg.size; have Z2 := Aside0.mk (Kd.Q_set ho UN (by decide) 2 (.slice A9 zs.length c9)); have Z3 := Aside0.mk (Kd.Q_set U2 UN (by decide) 2 (.slice A9 zs.length c9)); have Z4 := Aside0.mk (Kd.Q_set U4 UN (by decide) 2 (.slice A9 zs.length c9)); have ZG := Aside0.mk (Kd.R_set UG UN (by decide) 2 (.slice A9 zs.length c9)); have ZN := Aside0.mk (blk_put UN 2 (.slice A9 zs.length c9) rfl); have ZR := Aside0.mk (blk_far UR (p := ⟨w3.heap.size, 2, none⟩) HN5.out (.slice A9 zs.length c9)); have ZB := Aside0.mk (hb.setCell (p := ⟨w3.heap.size, 2, none⟩) HGB.out (.slice A9 zs.length c9)); have ZS := Aside0.mk (show w.heap.size ≤ (w9.setCell ⟨w3.heap.size, 2, none⟩ (.slice A9 zs.length c9)).heap.size by simpa [World.setCell] using US); clear p0 p1 p2 p3 p4 q0 q1 q2 q3 q4 HTY hat hg hb ho U2 U4 UG US UR; obtain ⟨⟨p0, p1, p2, p3, p4⟩, q0, q1, q2, q3, q4⟩ := cells5 UN; obtain ⟨⟨u0_, u1_, u2_, u3_, u4_⟩, g0_, g1_, g2_, g3_, g4_⟩ := cells5 ZN.out; have ZK2 := Aside0.mk (Kd.Q_reads' Z2.out).2.2; have ZK3 := Aside0.mk (Kd.Q_reads' Z3.out).2.2; have ZK4 := Aside0.mk (Kd.Q_reads' Z4.out).2.2; have ZL2 := Aside0.mk (Kd.Q_reads' Z2.out).2.1; have ZL3 := Aside0.mk (Kd.Q_reads' Z3.out).2.1; have ZL4 := Aside0.mk (Kd.Q_reads' Z4.out).2.1; clear UN) | (go_at_call 110; (with_reducible refine (impl_copyThree.calls a0_0 a0_1 A9 c9 zs A3 c3 m A4 c4 gh a0_0 a0_1 zs m gh _ ZK2.out ZL2.out ZK3.out ZL3.out ZK4.out ZL4.out HCR2.out).mono ?_); rintro e w10 ⟨y2, y3, y4, rfl, ho2, ho3, ho4, hb⟩; obtain ⟨B2, d2, rfl⟩ := Kd.R_slice ho2; obtain ⟨B3, d3, rfl⟩ := Kd.R_slice ho3; obtain ⟨B4_, d4, rfl⟩ := Kd.R_slice ho4; have M2 := Aside0.mk (Kd.R_lower ho2 ZS.out); have M3 := Aside0.mk (Kd.R_lower ho3 ZS.out); have M4 := Aside0.mk (Kd.R_lower ho4 ZS.out); have MG := Aside0.mk (Kd.R_below ZG.out hb); have MR := Aside0.mk (blk_below ZR.out hb); have MB := Aside0.mk (below_then ZB.out ZS.out hb); clear ho2 ho3 ho4 hb; obtain ⟨⟨r0, r1, r2, r3, r4⟩, t0, t1, t2, t3, t4⟩ := cells5 MR.out))
          refine bodyPost_ret (results_ctt rfl _ _ (w.heap.size + 1) 75 #[.int .i64 a0_0, .int .i64 a0_1, .slice B2 zs.length d2, .slice B3 m.length d3, .slice B4_ gh.length d4] (0, 0) _ rfl (put5 MR.out _ _ _ _ _) Try.underlying75 rfl (by kernel_rfl)) rfl ?_
          have KP := keep5 w10 (w.heap.size + 1) (.int .i64 a0_0) (.int .i64 a0_1) (.slice B2 zs.length d2) (.slice B3 m.length d3) (.slice B4_ gh.length d4)
          exact ⟨_, _, _, _, rfl, by rw [← HE2.out]; exact R_keepG M2.out KP MR.out (by decide), by rw [← HE3.out]; exact R_keepG M3.out KP MR.out (by decide), by rw [← HE4.out]; exact R_keepG M4.out KP MR.out (by decide), R_keepG MG.out KP MR.out (by decide), below_put5 MB.out (by omega) _ _ _ _ _⟩
theorem impl_Put.calls (k : Nat) (a0_0 a0_1 : Int) (A0_2 : Option Addr) (c0_2 : Nat) (l0_2 : List S120) (A0_3 : Option Addr) (c0_3 : Nat) (l0_3 : List S120) (A0_4 : Option Addr) (c0_4 : Nat) (l0_4 : List Int) (a1 a2 : ByteArray) (r1 r2 : Int) (r3 r4 : List S120) (r5 : List Int) (r6 : List ByteArray) (r7 : Bool) (w : World) (hr0_2 : Kd.C k120 w A0_2 l0_2.length l0_2) (hc0_2 : l0_2.length ≤ c0_2) (hr0_3 : Kd.C k120 w A0_3 l0_3.length l0_3) (hc0_3 : l0_3.length ≤ c0_3) (hr0_4 : Kd.C (Kd.int .i64) w A0_4 l0_4.length l0_4) (hc0_4 : l0_4.length ≤ c0_4) (h : impl_Put.f k a0_0 a0_1 l0_2 l0_3 l0_4 a1 a2 = some (r1, r2, r3, r4, r5, r6, r7)) :
    Calls Try.prog 104 #[.agg #[.int .i64 a0_0, .int .i64 a0_1, .slice A0_2 l0_2.length c0_2, .slice A0_3 l0_3.length c0_3, .slice A0_4 l0_4.length c0_4], .string a1, .string a2] w fun e w' => ∃ v2_ v3_ v4_ v5_ : Value, e = .returned (.tuple #[.agg #[.int .i64 r1, .int .i64 r2, v2_, v3_, v4_], v5_, .bool r7]) ∧ Kd.R k120 120 w' w.heap.size (fun k_ => some k_ ≠ (v3_ : Value).ownBlock) v2_ r3 ∧ Kd.R k120 120 w' w.heap.size (fun k_ => some k_ ≠ (v2_ : Value).ownBlock) v3_ r4 ∧ Kd.R (Kd.int .i64) 3 w' w.heap.size (fun _ => True) v4_ r5 ∧ Kd.R Kd.string 9 w' w.heap.size (fun _ => True) v5_ r6 ∧ Below w.heap.size w w' := by
  obtain ⟨ok, hok, h⟩ := Option.bind_eq_some_iff.mp h
  cases ok with
  | false =>
    rw [if_neg (by simp)] at h
    simp only [Option.some.injEq, Prod.mk.injEq] at h
    obtain ⟨rfl, rfl, rfl, rfl, rfl, rfl, rfl⟩ := h
    exact (impl_Put.no1 k a0_0 a0_1 A0_2 c0_2 l0_2 A0_3 c0_3 l0_3 A0_4 c0_4 l0_4 a1 a2 w hr0_2 hc0_2 hr0_3 hc0_3 hr0_4 hc0_4 hok).mono fun e w' ⟨he, hb⟩ => ⟨_, _, _, _, he, Kd.R_nil _ _ _ _ _, Kd.R_nil _ _ _ _ _, Kd.R_nil _ _ _ _ _, Kd.R_nil _ _ _ _ _, hb⟩
  | true =>
    rw [if_pos rfl] at h
    obtain ⟨ok2, hiok, h⟩ := Option.bind_eq_some_iff.mp h
    cases ok2 with
    | false =>
      rw [if_neg (by simp)] at h
      simp only [Option.some.injEq, Prod.mk.injEq] at h
      obtain ⟨rfl, rfl, rfl, rfl, rfl, rfl, rfl⟩ := h
      exact (impl_Put.no2 k a0_0 a0_1 A0_2 c0_2 l0_2 A0_3 c0_3 l0_3 A0_4 c0_4 l0_4 a1 a2 w hr0_2 hc0_2 hr0_3 hc0_3 hr0_4 hc0_4 hok hiok).mono fun e w' ⟨he, hb⟩ => ⟨_, _, _, _, he, Kd.R_nil _ _ _ _ _, Kd.R_nil _ _ _ _ _, Kd.R_nil _ _ _ _ _, Kd.R_nil _ _ _ _ _, hb⟩
    | true =>
      rw [if_pos rfl] at h
      by_cases h2 : 0 ≤ ixOf l0_2 a1
      · rw [if_pos h2] at h
        obtain ⟨i, hi, hil, _⟩ := ixOf_pos l0_2 a1 (by omega)
        rw [hi] at h
        simp only [Option.some.injEq, Prod.mk.injEq, Int.toNat_natCast] at h
        obtain ⟨rfl, rfl, rfl, rfl, rfl, rfl, rfl⟩ := h
        exact impl_Put.hit2 k a0_0 a0_1 A0_2 c0_2 l0_2 A0_3 c0_3 l0_3 A0_4 c0_4 l0_4 a1 a2 w hr0_2 hc0_2 hr0_3 hc0_3 hr0_4 hc0_4 hok hiok i hil hi
      · rw [if_neg h2] at h
        by_cases h3 : 0 ≤ ixOf l0_3 a1
        · rw [if_pos h3] at h
          obtain ⟨i, hi, hil, _⟩ := ixOf_pos l0_3 a1 (by omega)
          rw [hi] at h
          simp only [Option.some.injEq, Prod.mk.injEq, Int.toNat_natCast] at h
          obtain ⟨rfl, rfl, rfl, rfl, rfl, rfl, rfl⟩ := h
          exact impl_Put.hit3 k a0_0 a0_1 A0_2 c0_2 l0_2 A0_3 c0_3 l0_3 A0_4 c0_4 l0_4 a1 a2 w hr0_2 hc0_2 hr0_3 hc0_3 hr0_4 hc0_4 hok hiok h2 i hil hi
        · rw [if_neg h3] at h
          obtain ⟨⟨qs, qm, qg, qn⟩, hev, h⟩ := Option.bind_eq_some_iff.mp h
          obtain ⟨hh, hhs, h⟩ := Option.bind_eq_some_iff.mp h
          dsimp only at h
          have key := impl_Put.new k a0_0 a0_1 A0_2 c0_2 l0_2 A0_3 c0_3 l0_3 A0_4 c0_4 l0_4 a1 a2 w hr0_2 hc0_2 hr0_3 hc0_3 hr0_4 hc0_4 hok hiok h2 h3 qs qm qg qn hev hh hhs r3 r4 r5
          by_cases hin : hh ∈ qg
          · rw [if_pos hin] at h
            simp only [Option.some.injEq, Prod.mk.injEq] at h
            obtain ⟨rfl, rfl, rfl, rfl, rfl, rfl, rfl⟩ := h
            exact key (by rw [if_pos hin])
          · rw [if_neg hin] at h
            simp only [Option.some.injEq, Prod.mk.injEq] at h
            obtain ⟨rfl, rfl, rfl, rfl, rfl, rfl, rfl⟩ := h
            exact key (by rw [if_neg hin])
def askRow (k : Nat) (rk rc : Int) (ri : List S120) (key : ByteArray) : Option (Int × Int × List S120 × Bool × Int) :=
  (impl_RowGet.f k rk rc ri key).bind fun g => if g.2.2.2.2 = true then some (g.1, g.2.1, g.2.2.1, true, 0) else (impl_RowPut.f k rk rc ri key (⟨#[]⟩ : ByteArray)).bind fun p => some (p.1, p.2.1, p.2.2.1, false, (p.2.2.2.1.length : Int))
def RowAt (W : World) (g : Nat) (base : Nat) (rk rc : Int) (ri : List S120) : Prop := ∃ V, W.heap[g]? = some (.cells #[.int .i64 rk, .int .i64 rc, V, .int .i64 0, .int .i64 0, .slice none 0 0, .slice none 0 0, .slice none 0 0] 169 (0, 0)) ∧ Kd.R k120 120 W base (fun _ => True) V ri
theorem RowAt.below {W W1 : World} {g base : Nat} {rk rc : Int} {ri : List S120} (h : RowAt W g base rk rc ri) (hb : Below W.heap.size W W1) : RowAt W1 g base rk rc ri := by
  obtain ⟨V, h1, h2⟩ := h
  exact ⟨V, blk_below h1 hb, Kd.R_below h2 hb⟩
theorem cells4 {w : World} {g t : Nat} {cs : Array Value} {a b c d : Value} {r : List Value} (h : w.heap[g]? = some (.cells cs t (0, 0))) (hc : cs.toList = a :: b :: c :: d :: r) : w.cell? ⟨g, 0, none⟩ = some a ∧ w.cell? ⟨g, 1, none⟩ = some b ∧ w.cell? ⟨g, 2, none⟩ = some c ∧ w.cell? ⟨g, 3, none⟩ = some d ∧ w.frozen? ⟨g, 0, none⟩ = false ∧ w.frozen? ⟨g, 1, none⟩ = false ∧ w.frozen? ⟨g, 2, none⟩ = false := by
  have e : ∀ i : Nat, cs[i]? = (a :: b :: c :: d :: r)[i]? := fun i => by rw [← hc]; simp
  exact ⟨(blk_cell h 0).trans (e 0), (blk_cell h 1).trans (e 1), (blk_cell h 2).trans (e 2), (blk_cell h 3).trans (e 3), blk_frozen h 0, blk_frozen h 1, blk_frozen h 2⟩
theorem below_base {B : Nat} {w0 w w1 : World} (h : Below B w0 w) (hB : B ≤ w.heap.size) (k : Below w.heap.size w w1) : Below B w0 w1 := below_then h hB k
set_option maxHeartbeats 8000000 in
set_option maxRecDepth 100000 in
theorem impl_cache_ask.hit (k : Nat) (g base : Nat) (rk rc : Int) (ri : List S120) (key : ByteArray) (r1 r2 : Int) (r3 : List S120) (r4 : ByteArray) (w0 w : World)
    (hg : RowAt w g base rk rc ri) (HB : Below base w0 w) (hbase : base ≤ g) (h : impl_RowGet.f k rk rc ri key = some (r1, r2, r3, r4, true)) :
    Calls Try.prog 137 #[.pointer (some ⟨g, 0, none⟩), .string key] w fun e w' => e = .returned (.tuple #[.bool true, .int .i64 0]) ∧ RowAt w' g base r1 r2 r3 ∧ Below base w0 w' ∧ KeepBut w w' g none := by
  obtain ⟨V, hb, hr⟩ := hg
  obtain ⟨A, c, rfl, hlc, hC⟩ := Kd.R_reads hr
  have H := Aside0.mk h
  have HBK := Aside0.mk hb
  have HC := Aside0.mk hC
  have HLC := Aside0.mk hlc
  have HB0 := Aside0.mk HB
  obtain ⟨p0, p1, p2, p3, q0, q1, q2⟩ := cells4 hb rfl
  clear h hb hC hlc HB hr
  go_enter Try.func137, Try.ntmps137
  have HBS : Aside0 (base ≤ w.heap.size) := ⟨Nat.le_of_lt (Nat.lt_of_le_of_lt hbase (blk_lt HBK.out))⟩
  go_wp2_with (first | (go_at_call 22; (with_reducible refine (impl_RowGet.calls k rk rc A c ri key r1 r2 r3 r4 true _ HC.out HLC.out H.out).mono ?_); rintro e w1 ⟨v, rfl, ho, hb⟩; obtain ⟨A1, c1, rfl⟩ := Kd.R_slice ho; have B1 := Aside0.mk (blk_below HBK.out hb); have HO1 := Aside0.mk (Kd.R_lower ho HBS.out); have HB1 := Aside0.mk (below_base HB0.out HBS.out hb); have HK1 := Aside0.mk (KeepBut.of_below hb g none); clear ho hb p0 p1 p2 p3 q0 q1 q2; obtain ⟨p0, p1, p2, p3, q0, q1, q2⟩ := cells4 B1.out rfl) | ((with_reducible refine gate_dst (N := 60) rfl ?_); refine Kd.R_lit Kd.string _ 9 ?hg (N := 60) ?hd (xs := ([] : List ByteArray)) (inner := []) (ok := fun _ => True) (okp := fun _ => True) ?hr ?hp (fun _ hk => hk) trivial (Below.refl _ _) (Nat.le_refl _) (by simp) ?_; (case hd => rfl); (case hg => rfl); (case hr => first | (go_simp; done) | (go_simp; rfl)); (case hp => exact (Reps.none _ _)); intro vg w2 hog hb hgx hnew; clear hgx hnew; obtain ⟨Ag, cg, rfl⟩ := Kd.R_slice hog; have B2 := Aside0.mk (blk_below (blk_alloc B1.out _) hb); have T2 := Aside0.mk (blk_below (blk_new w1 _) hb); have HO2 := Aside0.mk (Kd.R_below (Kd.R_alloc HO1.out _) hb); have HB2 := Aside0.mk (below_base (HB1.out.alloc (Nat.le_trans HBS.out HK1.out.1) _) (Nat.le_trans (Nat.le_trans HBS.out HK1.out.1) (by simp)) hb); have HK2 := Aside0.mk (KeepBut.trans HK1.out (KeepBut.of_below (below_step (below_alloc (Below.refl _ _) _) hb) g none) (.inl rfl)); have NE := Aside0.mk (show w1.heap.size ≠ g from Nat.ne_of_gt (blk_lt B1.out)); clear hb hog p0 p1 p2 p3 q0 q1 q2; obtain ⟨p0, p1, p2, p3, q0, q1, q2⟩ := cells4 B2.out rfl; obtain ⟨⟨p4, p5, p6⟩, q4, q5, q6⟩ := cells3 T2.out))
  go_ret2
  exact ⟨rfl, ⟨_, blk_put (blk_put (blk_put B2.out 0 _ rfl) 1 _ rfl) 2 _ rfl, R_put3g HO2.out B2.out (by decide) _ _ _⟩, ((HB2.out.setCell (by exact hbase) _).setCell (by exact hbase) _).setCell (by exact hbase) _, ((HK2.out.set_ 0 _).set_ 1 _).set_ 2 _⟩
set_option maxHeartbeats 8000000 in
set_option maxRecDepth 100000 in
theorem impl_cache_ask.miss (k : Nat) (g base : Nat) (rk rc : Int) (ri : List S120) (key : ByteArray) (r1 r2 : Int) (r3 : List S120) (r4 : ByteArray) (s1 s2 : Int) (s3 : List S120) (s4 : List ByteArray) (s5 : Bool) (w0 w : World)
    (hg : RowAt w g base rk rc ri) (HB : Below base w0 w) (hbase : base ≤ g) (h : impl_RowGet.f k rk rc ri key = some (r1, r2, r3, r4, false)) (h2 : impl_RowPut.f k rk rc ri key (⟨#[]⟩ : ByteArray) = some (s1, s2, s3, s4, s5)) :
    Calls Try.prog 137 #[.pointer (some ⟨g, 0, none⟩), .string key] w fun e w' => e = .returned (.tuple #[.bool false, .int .i64 s4.length]) ∧ RowAt w' g base s1 s2 s3 ∧ Below base w0 w' ∧ KeepBut w w' g none := by
  obtain ⟨V, hb, hr⟩ := hg
  obtain ⟨A, c, rfl, hlc, hC⟩ := Kd.R_reads hr
  have H := Aside0.mk h
  have H2 := Aside0.mk h2
  have HBK := Aside0.mk hb
  have HC := Aside0.mk hC
  have HLC := Aside0.mk hlc
  have HB0 := Aside0.mk HB
  obtain ⟨p0, p1, p2, p3, q0, q1, q2⟩ := cells4 hb rfl
  clear h h2 hb hC hlc HB hr
  have HBS : Aside0 (base ≤ w.heap.size) := ⟨Nat.le_of_lt (Nat.lt_of_le_of_lt hbase (blk_lt HBK.out))⟩
  go_enter Try.func137, Try.ntmps137
  go_wp2_with (first | (go_at_call 22; (with_reducible refine (impl_RowGet.calls k rk rc A c ri key r1 r2 r3 r4 false _ HC.out HLC.out H.out).mono ?_); rintro e w1 ⟨v, rfl, ho, hb⟩; obtain ⟨A1, c1, rfl⟩ := Kd.R_slice ho; have B1 := Aside0.mk (blk_below HBK.out hb); have HO1 := Aside0.mk (Kd.R_lower ho HBS.out); have HB1 := Aside0.mk (below_base HB0.out HBS.out hb); have hbb1 := Aside0.mk hb; have HK1 := Aside0.mk (KeepBut.of_below hb g none); clear ho hb p0 p1 p2 p3 q0 q1 q2; obtain ⟨p0, p1, p2, p3, q0, q1, q2⟩ := cells4 B1.out rfl) | ((with_reducible refine gate_dst (N := 60) rfl ?_); refine Kd.R_lit Kd.string _ 9 ?hg (N := 60) ?hd (xs := ([] : List ByteArray)) (inner := []) (ok := fun _ => True) (okp := fun _ => True) ?hr ?hp (fun _ hk => hk) trivial (Below.refl _ _) (Nat.le_refl _) (by simp) ?_; (case hd => rfl); (case hg => rfl); (case hr => first | (go_simp; done) | (go_simp; rfl)); (case hp => exact (Reps.none _ _)); intro vg w2 hog hb hgx hnew; clear hgx hnew; obtain ⟨Ag, cg, rfl⟩ := Kd.R_slice hog; have B2 := Aside0.mk (blk_below (blk_alloc B1.out _) hb); have T2 := Aside0.mk (blk_below (blk_new w1 _) hb); have HO2 := Aside0.mk (Kd.R_below (Kd.R_alloc HO1.out _) hb); have HB2 := Aside0.mk (below_base (HB1.out.alloc (Nat.le_trans HBS.out HK1.out.1) _) (Nat.le_trans (Nat.le_trans HBS.out HK1.out.1) (by simp)) hb); have hbb2 := Aside0.mk hb; have HK2 := Aside0.mk (KeepBut.trans HK1.out (KeepBut.of_below (below_step (below_alloc (Below.refl _ _) _) hb) g none) (.inl rfl)); have NE := Aside0.mk (show w1.heap.size ≠ g from Nat.ne_of_gt (blk_lt B1.out)); clear hb hog p0 p1 p2 p3 q0 q1 q2; obtain ⟨p0, p1, p2, p3, q0, q1, q2⟩ := cells4 B2.out rfl; obtain ⟨⟨p4, p5, p6⟩, q4, q5, q6⟩ := cells3 T2.out; have HC2 := Aside0.mk (Kd.C_below (Kd.C_alloc (Kd.C_below HC.out hbb1.out) (.cells #[.int .i64 r1, .int .i64 r2, .slice A1 r3.length c1] 34)) hbb2.out)) | (go_at_call 21; (with_reducible refine (impl_RowPut.calls k rk rc A c ri key (⟨#[]⟩ : ByteArray) s1 s2 s3 s4 s5 _ HC2.out HLC.out H2.out).mono ?_); rintro e w3 ⟨v, vg2, rfl, ho, hog2, hb⟩; obtain ⟨A3, c3, rfl⟩ := Kd.R_slice ho; obtain ⟨Ag3, cg3, rfl⟩ := Kd.R_slice hog2; have B3 := Aside0.mk (blk_below B2.out hb); have T3 := Aside0.mk (blk_below T2.out hb); have HO3 := Aside0.mk (Kd.R_lower ho (Nat.le_trans HBS.out HK2.out.1)); have HB3 := Aside0.mk (below_base HB2.out (Nat.le_trans HBS.out HK2.out.1) hb); have HK3 := Aside0.mk (KeepBut.trans HK2.out (KeepBut.of_below hb g none) (.inl rfl)); clear ho hog2 hb p0 p1 p2 p3 q0 q1 q2 p4 p5 p6 q4 q5 q6; obtain ⟨p0, p1, p2, p3, q0, q1, q2⟩ := cells4 B3.out rfl; obtain ⟨⟨p4, p5, p6⟩, q4, q5, q6⟩ := cells3 T3.out; have B4 := Aside0.mk (show (((w3.setCell ⟨w1.heap.size, 0, none⟩ (.int .i64 s1)).setCell ⟨w1.heap.size, 1, none⟩ (.int .i64 s2)).setCell ⟨w1.heap.size, 2, none⟩ (.slice A3 s3.length c3)).heap[g]? = some (.cells #[.int .i64 rk, .int .i64 rc, .slice A ri.length c, .int .i64 0, .int .i64 0, .slice none 0 0, .slice none 0 0, .slice none 0 0] 169 (0, 0)) from blk_far (blk_far (blk_far B3.out NE.out.symm _) NE.out.symm _) NE.out.symm _); obtain ⟨p7, p8, p9, p10, q7, q8, q9⟩ := cells4 B4.out rfl))
  go_ret2
  exact ⟨rfl, ⟨_, blk_put (blk_put (blk_put (blk_far (blk_far (blk_far B3.out NE.out.symm _) NE.out.symm _) NE.out.symm _) 0 _ rfl) 1 _ rfl) 2 _ rfl, R_put3g (R_put3g HO3.out T3.out (by decide) _ _ _) (blk_far (blk_far (blk_far B3.out NE.out.symm _) NE.out.symm _) NE.out.symm _) (by decide) _ _ _⟩, (((((HB3.out.setCell (Nat.le_trans HBS.out HK1.out.1) _).setCell (Nat.le_trans HBS.out HK1.out.1) _).setCell (Nat.le_trans HBS.out HK1.out.1) _).setCell (by exact hbase) _).setCell (by exact hbase) _).setCell (by exact hbase) _, (((keep_far (keep_far (keep_far HK3.out HK1.out.1 _) HK1.out.1 _) HK1.out.1 _).set_ 0 _).set_ 1 _).set_ 2 _⟩
theorem impl_cache_ask.row (k : Nat) (g base : Nat) (rk rc : Int) (ri : List S120) (key : ByteArray) (a1 a2 : Int) (a3 : List S120) (a4 : Bool) (a5 : Int) (w0 w : World)
    (hg : RowAt w g base rk rc ri) (HB : Below base w0 w) (hbase : base ≤ g) (h : askRow k rk rc ri key = some (a1, a2, a3, a4, a5)) :
    Calls Try.prog 137 #[.pointer (some ⟨g, 0, none⟩), .string key] w fun e w' => e = .returned (.tuple #[.bool a4, .int .i64 a5]) ∧ RowAt w' g base a1 a2 a3 ∧ Below base w0 w' ∧ KeepBut w w' g none := by
  obtain ⟨⟨r1, r2, r3, r4, b⟩, h1, h⟩ := Option.bind_eq_some_iff.mp h
  cases b with
  | true =>
    rw [if_pos rfl] at h
    simp only [Option.some.injEq, Prod.mk.injEq] at h
    obtain ⟨rfl, rfl, rfl, rfl, rfl⟩ := h
    exact impl_cache_ask.hit k g base rk rc ri key _ _ _ _ w0 w hg HB hbase h1
  | false =>
    rw [if_neg (by simp)] at h
    obtain ⟨⟨s1, s2, s3, s4, s5⟩, h2, h⟩ := Option.bind_eq_some_iff.mp h
    simp only [Option.some.injEq, Prod.mk.injEq] at h
    obtain ⟨rfl, rfl, rfl, rfl, rfl⟩ := h
    exact impl_cache_ask.miss k g base rk rc ri key _ _ _ _ _ _ _ _ _ w0 w hg HB hbase h1 h2
theorem RowAt.grown {W W1 : World} {g base : Nat} {rk rc : Int} {ri : List S120} {row : Option Nat} {e : Nat} (h : RowAt W g base rk rc ri) (hg : W.grownBy W1 row) (hrow : ∀ k, row = some k → ∃ cells, W.heap[k]? = some (.cells cells e (0, 0))) (h1 : e ≠ 169) (h2 : ∀ q, q ∈ 120 :: k120.E → q ≠ e) : RowAt W1 g base rk rc ri := by
  obtain ⟨V, hb, hr⟩ := h
  refine ⟨V, blk_grown hb hg (fun he => ?_), R_grownT hr hg hrow h2⟩
  obtain ⟨cs, hc⟩ := hrow g he.symm
  rw [hb] at hc
  injection hc with hc
  injection hc with _ hc
  exact h1 hc.symm
theorem R_keepT {α : Type} {d : Kd α} {e base : Nat} {w w1 : World} {ok : Nat → Prop} {V : Value} {xs : List α} {g t : Nat} {cs : Array Value} (h : d.R e w base ok V xs) (hk : KeepBut w w1 g none) (hb : w.heap[g]? = some (.cells cs t (0, 0))) (ht : ∀ q, q ∈ e :: d.E → q ≠ t) : d.R e w1 base ok V xs := by
  refine Kd.R_mono (Kd.R_keep (Kd.R_bound h) hk (fun k hk' he => ?_)) (fun _ hk' => hk'.1)
  obtain ⟨_, _, hlt, q, hq, cells, hc⟩ := hk'
  subst he
  rw [hb] at hc
  injection hc with hc
  injection hc with _ hc
  exact ht q hq hc.symm
theorem R_keepRow {α : Type} {d : Kd α} {e base b2 : Nat} {w w1 : World} {ok : Nat → Prop} {V : Value} {xs : List α} {g : Nat} {rk rc : Int} {ri : List S120} (h : d.R e w base ok V xs) (hk : KeepBut w w1 g none) (hb : RowAt w g b2 rk rc ri) (ht : ∀ q, q ∈ e :: d.E → q ≠ 169) : d.R e w1 base ok V xs := by
  obtain ⟨V, hb, _⟩ := hb
  exact R_keepT h hk hb ht
theorem RowAt.alloc {W : World} {g base : Nat} {rk rc : Int} {ri : List S120} (h : RowAt W g base rk rc ri) (o : Obj) : RowAt (W.alloc o) g base rk rc ri := h.below ((Below.refl _ _).alloc (Nat.le_refl _) o)
theorem RowAt.lower {W : World} {g b b1 : Nat} {rk rc : Int} {ri : List S120} (h : RowAt W g b1 rk rc ri) (hb : b ≤ b1) : RowAt W g b rk rc ri := by
  obtain ⟨V, h1, h2⟩ := h
  exact ⟨V, h1, Kd.R_lower h2 hb⟩
def askTh (k : Nat) (cp mo : Int) (s m : List S120) (gh : List Int) (key : ByteArray) : Option (Int × Int × List S120 × List S120 × List Int × Bool × Int) :=
  if 0 < cp then (impl_Get.f k cp mo s m gh key).bind fun g => if g.2.2.2.2.2.2 = true then some (g.1, g.2.1, g.2.2.1, g.2.2.2.1, g.2.2.2.2.1, true, 0) else (impl_Put.f k cp mo s m gh key (⟨#[]⟩ : ByteArray)).bind fun p => some (p.1, p.2.1, p.2.2.1, p.2.2.2.1, p.2.2.2.2.1, false, (p.2.2.2.2.2.1.length : Int)) else none
def ThAt (W : World) (g : Nat) (base : Nat) (cp mo : Int) (s m : List S120) (gh : List Int) : Prop := ∃ V2 V3 V4, W.heap[g]? = some (.cells #[.int .i64 0, .int .i64 0, .slice none 0 0, .int .i64 cp, .int .i64 mo, V2, V3, V4] 169 (0, 0)) ∧ Kd.R k120 120 W base (fun k_ => some k_ ≠ (V3 : Value).ownBlock) V2 s ∧ Kd.R k120 120 W base (fun k_ => some k_ ≠ (V2 : Value).ownBlock) V3 m ∧ Kd.R (Kd.int .i64) 3 W base (fun _ => True) V4 gh
theorem ThAt.below {W W1 : World} {g base : Nat} {cp mo : Int} {s m : List S120} {gh : List Int} (h : ThAt W g base cp mo s m gh) (hb : Below W.heap.size W W1) : ThAt W1 g base cp mo s m gh := by
  obtain ⟨V2, V3, V4, h0, h2, h3, h4⟩ := h
  exact ⟨V2, V3, V4, blk_below h0 hb, Kd.R_below h2 hb, Kd.R_below h3 hb, Kd.R_below h4 hb⟩
theorem ThAt.lower {W : World} {g b b1 : Nat} {cp mo : Int} {s m : List S120} {gh : List Int} (h : ThAt W g b1 cp mo s m gh) (hb : b ≤ b1) : ThAt W g b cp mo s m gh := by
  obtain ⟨V2, V3, V4, h0, h2, h3, h4⟩ := h
  exact ⟨V2, V3, V4, h0, Kd.R_lower h2 hb, Kd.R_lower h3 hb, Kd.R_lower h4 hb⟩
theorem ThAt.alloc {W : World} {g base : Nat} {cp mo : Int} {s m : List S120} {gh : List Int} (h : ThAt W g base cp mo s m gh) (o : Obj) : ThAt (W.alloc o) g base cp mo s m gh := h.below ((Below.refl _ _).alloc (Nat.le_refl _) o)
theorem ThAt.grown {W W1 : World} {g base : Nat} {cp mo : Int} {s m : List S120} {gh : List Int} {row : Option Nat} {e : Nat} (h : ThAt W g base cp mo s m gh) (hg : W.grownBy W1 row) (hrow : ∀ k, row = some k → ∃ cells, W.heap[k]? = some (.cells cells e (0, 0))) (h1 : e ≠ 169) (h2 : ∀ q, q ∈ 120 :: k120.E → q ≠ e) (h3 : ∀ q, q ∈ 3 :: (Kd.int .i64).E → q ≠ e) : ThAt W1 g base cp mo s m gh := by
  obtain ⟨V2, V3, V4, hb, hr2, hr3, hr4⟩ := h
  refine ⟨V2, V3, V4, blk_grown hb hg (fun he => ?_), R_grownT hr2 hg hrow h2, R_grownT hr3 hg hrow h2, R_grownT hr4 hg hrow h3⟩
  obtain ⟨cs, hc⟩ := hrow g he.symm
  rw [hb] at hc
  injection hc with hc
  injection hc with _ hc
  exact h1 hc.symm
theorem R_keepTh {α : Type} {d : Kd α} {e base b2 : Nat} {w w1 : World} {ok : Nat → Prop} {V : Value} {xs : List α} {g : Nat} {cp mo : Int} {s m : List S120} {gh : List Int} (h : d.R e w base ok V xs) (hk : KeepBut w w1 g none) (hb : ThAt w g b2 cp mo s m gh) (ht : ∀ q, q ∈ e :: d.E → q ≠ 169) : d.R e w1 base ok V xs := by
  obtain ⟨_, _, _, hb, _⟩ := hb
  exact R_keepG h hk hb ht
theorem cells8 {w : World} {g t : Nat} {a b c d e f i j : Value} (h : w.heap[g]? = some (.cells #[a, b, c, d, e, f, i, j] t (0, 0))) : (w.cell? ⟨g, 0, none⟩ = some a ∧ w.cell? ⟨g, 1, none⟩ = some b ∧ w.cell? ⟨g, 2, none⟩ = some c ∧ w.cell? ⟨g, 3, none⟩ = some d ∧ w.cell? ⟨g, 4, none⟩ = some e ∧ w.cell? ⟨g, 5, none⟩ = some f ∧ w.cell? ⟨g, 6, none⟩ = some i ∧ w.cell? ⟨g, 7, none⟩ = some j) ∧ w.frozen? ⟨g, 3, none⟩ = false ∧ w.frozen? ⟨g, 4, none⟩ = false ∧ w.frozen? ⟨g, 5, none⟩ = false ∧ w.frozen? ⟨g, 6, none⟩ = false ∧ w.frozen? ⟨g, 7, none⟩ = false :=
  ⟨⟨(blk_cell h 0).trans rfl, (blk_cell h 1).trans rfl, (blk_cell h 2).trans rfl, (blk_cell h 3).trans rfl, (blk_cell h 4).trans rfl, (blk_cell h 5).trans rfl, (blk_cell h 6).trans rfl, (blk_cell h 7).trans rfl⟩, blk_frozen h 3, blk_frozen h 4, blk_frozen h 5, blk_frozen h 6, blk_frozen h 7⟩
theorem put53 {w : World} {g t : Nat} {a b c d e f i j : Value} (h : w.heap[g]? = some (.cells #[a, b, c, d, e, f, i, j] t (0, 0))) (x y z u v : Value) : (((((w.setCell ⟨g, 3, none⟩ x).setCell ⟨g, 4, none⟩ y).setCell ⟨g, 5, none⟩ z).setCell ⟨g, 6, none⟩ u).setCell ⟨g, 7, none⟩ v).heap[g]? = some (.cells #[a, b, c, x, y, z, u, v] t (0, 0)) :=
  blk_put (blk_put (blk_put (blk_put (blk_put h 3 x rfl) 4 y rfl) 5 z rfl) 6 u rfl) 7 v rfl
theorem keep53 (w : World) (g : Nat) (x y z u v : Value) : KeepBut w (((((w.setCell ⟨g, 3, none⟩ x).setCell ⟨g, 4, none⟩ y).setCell ⟨g, 5, none⟩ z).setCell ⟨g, 6, none⟩ u).setCell ⟨g, 7, none⟩ v) g none :=
  (((((KeepBut.refl w g none).set_ 3 x).set_ 4 y).set_ 5 z).set_ 6 u).set_ 7 v
theorem below_put53 {B : Nat} {w0 w : World} {g : Nat} (h : Below B w0 w) (hg : B ≤ g) (x y z u v : Value) : Below B w0 (((((w.setCell ⟨g, 3, none⟩ x).setCell ⟨g, 4, none⟩ y).setCell ⟨g, 5, none⟩ z).setCell ⟨g, 6, none⟩ u).setCell ⟨g, 7, none⟩ v) :=
  ((((h.setCell hg x).setCell hg y).setCell hg z).setCell hg u).setCell hg v
theorem far_put5 {w : World} {g g' : Nat} {o : Obj} (h : w.heap[g']? = some o) (hne : g' ≠ g) (x y z u v : Value) : (((((w.setCell ⟨g, 0, none⟩ x).setCell ⟨g, 1, none⟩ y).setCell ⟨g, 2, none⟩ z).setCell ⟨g, 3, none⟩ u).setCell ⟨g, 4, none⟩ v).heap[g']? = some o := by
  rw [Below.heap_setCell _ _ _ _ hne, Below.heap_setCell _ _ _ _ hne, Below.heap_setCell _ _ _ _ hne, Below.heap_setCell _ _ _ _ hne, Below.heap_setCell _ _ _ _ hne]; exact h
set_option maxHeartbeats 8000000 in
set_option maxRecDepth 100000 in
theorem impl_cache_ask.hitT (k : Nat) (g base : Nat) (cp mo : Int) (s m : List S120) (gh : List Int) (key : ByteArray) (r1 r2 : Int) (r3 r4 : List S120) (r5 : List Int) (r6 : ByteArray) (w0 w : World)
    (hg : ThAt w g base cp mo s m gh) (HB : Below base w0 w) (hbase : base ≤ g) (hcp : 0 < cp) (h : impl_Get.f k cp mo s m gh key = some (r1, r2, r3, r4, r5, r6, true)) :
    Calls Try.prog 137 #[.pointer (some ⟨g, 0, none⟩), .string key] w fun e w' => e = .returned (.tuple #[.bool true, .int .i64 0]) ∧ ThAt w' g base r1 r2 r3 r4 r5 ∧ Below base w0 w' ∧ KeepBut w w' g none := by
  obtain ⟨V2, V3, V4, hb, hr2, hr3, hr4⟩ := hg
  obtain ⟨A2, c2, rfl, l2, k2⟩ := Kd.R_reads hr2
  obtain ⟨A3, c3, rfl, l3, k3⟩ := Kd.R_reads hr3
  obtain ⟨A4, c4, rfl, l4, k4⟩ := Kd.R_reads hr4
  have H := Aside0.mk h
  have HBK := Aside0.mk hb
  have C2 := Aside0.mk k2
  have C3 := Aside0.mk k3
  have C4 := Aside0.mk k4
  have L2 := Aside0.mk l2
  have L3 := Aside0.mk l3
  have L4 := Aside0.mk l4
  have HB0 := Aside0.mk HB
  have hpos : decide (0 < cp) = true := decide_eq_true hcp
  obtain ⟨⟨p0, p1, p2, p3, p4, p5, p6, p7⟩, q3, q4, q5, q6, q7⟩ := cells8 hb
  have HBS : Aside0 (base ≤ w.heap.size) := ⟨Nat.le_of_lt (Nat.lt_of_le_of_lt hbase (blk_lt HBK.out))⟩
  have HBA := Aside0.mk hbase
  clear h hb hr2 hr3 hr4 l2 l3 l4 k2 k3 k4 HB hcp
  go_enter Try.func137, Try.ntmps137
  go_wp2_with (first | (go_at_call 50; (with_reducible refine (impl_Get.calls k cp mo A2 c2 s A3 c3 m A4 c4 gh key r1 r2 r3 r4 r5 r6 true _ C2.out L2.out C3.out L3.out C4.out L4.out H.out).mono ?_); rintro e w1 ⟨v2, v3, v4, rfl, ho2, ho3, ho4, hb⟩; obtain ⟨B2_, d2, rfl⟩ := Kd.R_slice ho2; obtain ⟨B3_, d3, rfl⟩ := Kd.R_slice ho3; obtain ⟨B4_, d4, rfl⟩ := Kd.R_slice ho4; have B1 := Aside0.mk (blk_below HBK.out hb); have O2 := Aside0.mk (Kd.R_lower ho2 HBS.out); have O3 := Aside0.mk (Kd.R_lower ho3 HBS.out); have O4 := Aside0.mk (Kd.R_lower ho4 HBS.out); have HB1 := Aside0.mk (below_base HB0.out HBS.out hb); have hbb1 := Aside0.mk hb; have HK1 := Aside0.mk (KeepBut.of_below hb g none); clear ho2 ho3 ho4 hb p0 p1 p2 p3 p4 p5 p6 p7 q3 q4 q5 q6 q7; obtain ⟨⟨p0, p1, p2, p3, p4, p5, p6, p7⟩, q3, q4, q5, q6, q7⟩ := cells8 B1.out) | ((with_reducible refine gate_dst (N := 30) rfl ?_); refine Kd.R_lit Kd.string _ 9 ?hg (N := 30) ?hd (xs := ([] : List ByteArray)) (inner := []) (ok := fun _ => True) (okp := fun _ => True) ?hr ?hp (fun _ hk => hk) trivial (Below.refl _ _) (Nat.le_refl _) (by simp) ?_; (case hd => rfl); (case hg => rfl); (case hr => first | (go_simp; done) | (go_simp; rfl)); (case hp => exact (Reps.none _ _)); intro vg w2 hog hb hgx hnew; clear hgx hnew; obtain ⟨Ag, cg, rfl⟩ := Kd.R_slice hog; have B2 := Aside0.mk (blk_below (blk_alloc B1.out _) hb); have T2 := Aside0.mk (blk_below (blk_new w1 _) hb); have M2 := Aside0.mk (Kd.R_below (Kd.R_alloc O2.out _) hb); have M3 := Aside0.mk (Kd.R_below (Kd.R_alloc O3.out _) hb); have M4 := Aside0.mk (Kd.R_below (Kd.R_alloc O4.out _) hb); have HB2 := Aside0.mk (below_base (HB1.out.alloc (Nat.le_trans HBS.out HK1.out.1) _) (Nat.le_trans (Nat.le_trans HBS.out HK1.out.1) (by simp)) hb); have hbb2 := Aside0.mk hb; have HK2 := Aside0.mk (KeepBut.trans HK1.out (KeepBut.of_below (below_step (below_alloc (Below.refl _ _) _) hb) g none) (.inl rfl)); have NE := Aside0.mk (show w1.heap.size ≠ g from Nat.ne_of_gt (blk_lt B1.out)); clear hb hog p0 p1 p2 p3 p4 p5 p6 p7 q3 q4 q5 q6 q7; obtain ⟨⟨p0, p1, p2, p3, p4, p5, p6, p7⟩, q3, q4, q5, q6, q7⟩ := cells8 B2.out; obtain ⟨⟨s0, s1, s2, s3, s4⟩, f0, f1, f2, f3, f4⟩ := cells5 T2.out))
  go_ret2
  have KP := keep53 w2 g (.int .i64 r1) (.int .i64 r2) (.slice B2_ r3.length d2) (.slice B3_ r4.length d3) (.slice B4_ r5.length d4)
  exact ⟨rfl, ⟨_, _, _, put53 B2.out _ _ _ _ _, R_keepG M2.out KP B2.out (by decide), R_keepG M3.out KP B2.out (by decide), R_keepG M4.out KP B2.out (by decide)⟩, below_put53 HB2.out HBA.out _ _ _ _ _, KeepBut.trans HK2.out KP (.inl rfl)⟩
set_option maxHeartbeats 8000000 in
set_option maxRecDepth 100000 in
theorem impl_cache_ask.missT (k : Nat) (g base : Nat) (cp mo : Int) (s m : List S120) (gh : List Int) (key : ByteArray) (r1 r2 : Int) (r3 r4 : List S120) (r5 : List Int) (r6 : ByteArray) (s1_ s2_ : Int) (s3_ s4_ : List S120) (s5_ : List Int) (s6_ : List ByteArray) (s7_ : Bool) (w0 w : World)
    (hg : ThAt w g base cp mo s m gh) (HB : Below base w0 w) (hbase : base ≤ g) (hcp : 0 < cp) (h : impl_Get.f k cp mo s m gh key = some (r1, r2, r3, r4, r5, r6, false)) (h2 : impl_Put.f k cp mo s m gh key (⟨#[]⟩ : ByteArray) = some (s1_, s2_, s3_, s4_, s5_, s6_, s7_)) :
    Calls Try.prog 137 #[.pointer (some ⟨g, 0, none⟩), .string key] w fun e w' => e = .returned (.tuple #[.bool false, .int .i64 s6_.length]) ∧ ThAt w' g base s1_ s2_ s3_ s4_ s5_ ∧ Below base w0 w' ∧ KeepBut w w' g none := by
  obtain ⟨V2, V3, V4, hb, hr2, hr3, hr4⟩ := hg
  obtain ⟨A2, c2, rfl, l2, k2⟩ := Kd.R_reads hr2
  obtain ⟨A3, c3, rfl, l3, k3⟩ := Kd.R_reads hr3
  obtain ⟨A4, c4, rfl, l4, k4⟩ := Kd.R_reads hr4
  have H := Aside0.mk h
  have HBK := Aside0.mk hb
  have C2 := Aside0.mk k2
  have C3 := Aside0.mk k3
  have C4 := Aside0.mk k4
  have L2 := Aside0.mk l2
  have L3 := Aside0.mk l3
  have L4 := Aside0.mk l4
  have HB0 := Aside0.mk HB
  have hpos : decide (0 < cp) = true := decide_eq_true hcp
  obtain ⟨⟨p0, p1, p2, p3, p4, p5, p6, p7⟩, q3, q4, q5, q6, q7⟩ := cells8 hb
  have HBS : Aside0 (base ≤ w.heap.size) := ⟨Nat.le_of_lt (Nat.lt_of_le_of_lt hbase (blk_lt HBK.out))⟩
  have HBA := Aside0.mk hbase
  have H2 := Aside0.mk h2
  clear h h2 hb hr2 hr3 hr4 l2 l3 l4 k2 k3 k4 HB hcp
  go_enter Try.func137, Try.ntmps137
  go_wp2_with (first | (go_at_call 50; (with_reducible refine (impl_Get.calls k cp mo A2 c2 s A3 c3 m A4 c4 gh key r1 r2 r3 r4 r5 r6 false _ C2.out L2.out C3.out L3.out C4.out L4.out H.out).mono ?_); rintro e w1 ⟨v2, v3, v4, rfl, ho2, ho3, ho4, hb⟩; obtain ⟨B2_, d2, rfl⟩ := Kd.R_slice ho2; obtain ⟨B3_, d3, rfl⟩ := Kd.R_slice ho3; obtain ⟨B4_, d4, rfl⟩ := Kd.R_slice ho4; have B1 := Aside0.mk (blk_below HBK.out hb); have O2 := Aside0.mk (Kd.R_lower ho2 HBS.out); have O3 := Aside0.mk (Kd.R_lower ho3 HBS.out); have O4 := Aside0.mk (Kd.R_lower ho4 HBS.out); have HB1 := Aside0.mk (below_base HB0.out HBS.out hb); have hbb1 := Aside0.mk hb; have HK1 := Aside0.mk (KeepBut.of_below hb g none); clear ho2 ho3 ho4 hb p0 p1 p2 p3 p4 p5 p6 p7 q3 q4 q5 q6 q7; obtain ⟨⟨p0, p1, p2, p3, p4, p5, p6, p7⟩, q3, q4, q5, q6, q7⟩ := cells8 B1.out) | ((with_reducible refine gate_dst (N := 30) rfl ?_); refine Kd.R_lit Kd.string _ 9 ?hg (N := 30) ?hd (xs := ([] : List ByteArray)) (inner := []) (ok := fun _ => True) (okp := fun _ => True) ?hr ?hp (fun _ hk => hk) trivial (Below.refl _ _) (Nat.le_refl _) (by simp) ?_; (case hd => rfl); (case hg => rfl); (case hr => first | (go_simp; done) | (go_simp; rfl)); (case hp => exact (Reps.none _ _)); intro vg w2 hog hb hgx hnew; clear hgx hnew; obtain ⟨Ag, cg, rfl⟩ := Kd.R_slice hog; have B2 := Aside0.mk (blk_below (blk_alloc B1.out _) hb); have T2 := Aside0.mk (blk_below (blk_new w1 _) hb); have M2 := Aside0.mk (Kd.R_below (Kd.R_alloc O2.out _) hb); have M3 := Aside0.mk (Kd.R_below (Kd.R_alloc O3.out _) hb); have M4 := Aside0.mk (Kd.R_below (Kd.R_alloc O4.out _) hb); have HB2 := Aside0.mk (below_base (HB1.out.alloc (Nat.le_trans HBS.out HK1.out.1) _) (Nat.le_trans (Nat.le_trans HBS.out HK1.out.1) (by simp)) hb); have hbb2 := Aside0.mk hb; have HK2 := Aside0.mk (KeepBut.trans HK1.out (KeepBut.of_below (below_step (below_alloc (Below.refl _ _) _) hb) g none) (.inl rfl)); have NE := Aside0.mk (show w1.heap.size ≠ g from Nat.ne_of_gt (blk_lt B1.out)); clear hb hog p0 p1 p2 p3 p4 p5 p6 p7 q3 q4 q5 q6 q7; obtain ⟨⟨p0, p1, p2, p3, p4, p5, p6, p7⟩, q3, q4, q5, q6, q7⟩ := cells8 B2.out; obtain ⟨⟨s0, s1, s2, s3, s4⟩, f0, f1, f2, f3, f4⟩ := cells5 T2.out; have D2 := Aside0.mk (Kd.C_below (Kd.C_alloc (Kd.C_below C2.out hbb1.out) (.cells #[.int .i64 r1, .int .i64 r2, .slice B2_ r3.length d2, .slice B3_ r4.length d3, .slice B4_ r5.length d4] 75)) hbb2.out); have D3 := Aside0.mk (Kd.C_below (Kd.C_alloc (Kd.C_below C3.out hbb1.out) (.cells #[.int .i64 r1, .int .i64 r2, .slice B2_ r3.length d2, .slice B3_ r4.length d3, .slice B4_ r5.length d4] 75)) hbb2.out); have D4 := Aside0.mk (Kd.C_below (Kd.C_alloc (Kd.C_below C4.out hbb1.out) (.cells #[.int .i64 r1, .int .i64 r2, .slice B2_ r3.length d2, .slice B3_ r4.length d3, .slice B4_ r5.length d4] 75)) hbb2.out)) | (go_at_call 104; (with_reducible refine (impl_Put.calls k cp mo A2 c2 s A3 c3 m A4 c4 gh key (⟨#[]⟩ : ByteArray) s1_ s2_ s3_ s4_ s5_ s6_ s7_ _ D2.out L2.out D3.out L3.out D4.out L4.out H2.out).mono ?_); rintro e w3 ⟨v2, v3, v4, v5, rfl, ho2, ho3, ho4, ho5, hb⟩; obtain ⟨E2_, e2, rfl⟩ := Kd.R_slice ho2; obtain ⟨E3_, e3, rfl⟩ := Kd.R_slice ho3; obtain ⟨E4_, e4, rfl⟩ := Kd.R_slice ho4; obtain ⟨E5_, e5, rfl⟩ := Kd.R_slice ho5; have B3 := Aside0.mk (blk_below B2.out hb); have T3 := Aside0.mk (blk_below T2.out hb); have N2 := Aside0.mk (Kd.R_lower ho2 (Nat.le_trans HBS.out HK2.out.1)); have N3 := Aside0.mk (Kd.R_lower ho3 (Nat.le_trans HBS.out HK2.out.1)); have N4 := Aside0.mk (Kd.R_lower ho4 (Nat.le_trans HBS.out HK2.out.1)); have HB3 := Aside0.mk (below_base HB2.out (Nat.le_trans HBS.out HK2.out.1) hb); have HK3 := Aside0.mk (KeepBut.trans HK2.out (KeepBut.of_below hb g none) (.inl rfl)); clear ho2 ho3 ho4 ho5 hb p0 p1 p2 p3 p4 p5 p6 p7 q3 q4 q5 q6 q7 s0 s1 s2 s3 s4 f0 f1 f2 f3 f4; obtain ⟨⟨p0, p1, p2, p3, p4, p5, p6, p7⟩, q3, q4, q5, q6, q7⟩ := cells8 B3.out; obtain ⟨⟨s0, s1, s2, s3, s4⟩, f0, f1, f2, f3, f4⟩ := cells5 T3.out; have B4 := Aside0.mk (far_put5 B3.out NE.out.symm (.int .i64 s1_) (.int .i64 s2_) (.slice E2_ s3_.length e2) (.slice E3_ s4_.length e3) (.slice E4_ s5_.length e4)); obtain ⟨⟨u0, u1, u2, u3, u4, u5, u6, u7⟩, g3, g4, g5, g6, g7⟩ := cells8 B4.out))
  go_ret2
  have KQ := keep5 w3 w1.heap.size (.int .i64 s1_) (.int .i64 s2_) (.slice E2_ s3_.length e2) (.slice E3_ s4_.length e3) (.slice E4_ s5_.length e4)
  have KP := keep53 (((((w3.setCell ⟨w1.heap.size, 0, none⟩ (.int .i64 s1_)).setCell ⟨w1.heap.size, 1, none⟩ (.int .i64 s2_)).setCell ⟨w1.heap.size, 2, none⟩ (.slice E2_ s3_.length e2)).setCell ⟨w1.heap.size, 3, none⟩ (.slice E3_ s4_.length e3)).setCell ⟨w1.heap.size, 4, none⟩ (.slice E4_ s5_.length e4)) g (.int .i64 s1_) (.int .i64 s2_) (.slice E2_ s3_.length e2) (.slice E3_ s4_.length e3) (.slice E4_ s5_.length e4)
  have HKX := keep_far (keep_far (keep_far (keep_far (keep_far HK3.out (p := ⟨w1.heap.size, 0, none⟩) HK1.out.1 (.int .i64 s1_)) (p := ⟨w1.heap.size, 1, none⟩) HK1.out.1 (.int .i64 s2_)) (p := ⟨w1.heap.size, 2, none⟩) HK1.out.1 (.slice E2_ s3_.length e2)) (p := ⟨w1.heap.size, 3, none⟩) HK1.out.1 (.slice E3_ s4_.length e3)) (p := ⟨w1.heap.size, 4, none⟩) HK1.out.1 (.slice E4_ s5_.length e4)
  exact ⟨rfl, ⟨_, _, _, put53 B4.out _ _ _ _ _, R_keepG (R_keepG N2.out KQ T3.out (by decide)) KP B4.out (by decide), R_keepG (R_keepG N3.out KQ T3.out (by decide)) KP B4.out (by decide), R_keepG (R_keepG N4.out KQ T3.out (by decide)) KP B4.out (by decide)⟩, below_put53 (below_put5 HB3.out (Nat.le_trans HBS.out HK1.out.1) _ _ _ _ _) HBA.out _ _ _ _ _, KeepBut.trans HKX KP (.inl rfl)⟩
theorem impl_cache_ask.three (k : Nat) (g base : Nat) (cp mo : Int) (s m : List S120) (gh : List Int) (key : ByteArray) (a1 a2 : Int) (a3 a4 : List S120) (a5 : List Int) (a6 : Bool) (a7 : Int) (w0 w : World)
    (hg : ThAt w g base cp mo s m gh) (HB : Below base w0 w) (hbase : base ≤ g) (h : askTh k cp mo s m gh key = some (a1, a2, a3, a4, a5, a6, a7)) :
    Calls Try.prog 137 #[.pointer (some ⟨g, 0, none⟩), .string key] w fun e w' => e = .returned (.tuple #[.bool a6, .int .i64 a7]) ∧ ThAt w' g base a1 a2 a3 a4 a5 ∧ Below base w0 w' ∧ KeepBut w w' g none := by
  unfold askTh at h
  by_cases hcp : 0 < cp
  case neg => rw [if_neg hcp] at h; exact absurd h (by simp)
  rw [if_pos hcp] at h
  obtain ⟨⟨r1, r2, r3, r4, r5, r6, b⟩, h1, h⟩ := Option.bind_eq_some_iff.mp h
  cases b with
  | true =>
    rw [if_pos rfl] at h
    simp only [Option.some.injEq, Prod.mk.injEq] at h
    obtain ⟨rfl, rfl, rfl, rfl, rfl, rfl, rfl⟩ := h
    exact impl_cache_ask.hitT k g base cp mo s m gh key _ _ _ _ _ _ w0 w hg HB hbase hcp h1
  | false =>
    rw [if_neg (by simp)] at h
    obtain ⟨⟨s1, s2, s3, s4, s5, s6, s7⟩, h2, h⟩ := Option.bind_eq_some_iff.mp h
    simp only [Option.some.injEq, Prod.mk.injEq] at h
    obtain ⟨rfl, rfl, rfl, rfl, rfl, rfl, rfl⟩ := h
    exact impl_cache_ask.missT k g base cp mo s m gh key _ _ _ _ _ _ _ _ _ _ _ _ _ w0 w hg HB hbase hcp h1 h2
set_option maxHeartbeats 8000000 in
set_option maxRecDepth 100000 in
theorem impl_cacheOf.row (k : Nat) (k1 cp mo : Int) (rk rc : Int) (ri : List S120) (ok : Bool) (w : World) (hk : k1 ≠ 4) (h : impl_RowNew.f k k1 cp = some (rk, rc, ri, ok)) :
    Calls Try.prog 136 #[.agg #[.int .i64 k1, .int .i64 cp, .int .i64 mo]] w fun e w' => ∃ g, e = .returned (.pointer (some ⟨g, 0, none⟩)) ∧ w.heap.size ≤ g ∧ RowAt w' g w.heap.size rk rc ri ∧ Below w.heap.size w w' := by
  have H := Aside0.mk h
  have hk' : (k1 == 4) = false := by simpa using hk
  clear h
  go_enter Try.func136, Try.ntmps136
  go_wp2_with (first | (go_at_call 20; (with_reducible refine (impl_RowNew.calls k k1 cp rk rc ri ok _ H.out).mono ?_); rintro e w1 ⟨v, rfl, ho, hb⟩; obtain ⟨A1, c1, rfl⟩ := Kd.R_slice ho; have B1 := Aside0.mk (show w1.heap[w.heap.size + 1]? = some (.cells #[.int .i64 0, .int .i64 0, .slice none 0 0, .int .i64 0, .int .i64 0, .slice none 0 0, .slice none 0 0, .slice none 0 0] 169 (0, 0)) by have z := blk_below (blk_new (w.alloc _) _) hb; simpa using z); have HO1 := Aside0.mk (Kd.R_lower ho (show w.heap.size ≤ _ by simp; omega)); have HB1 := Aside0.mk (below_step ((Below.refl w.heap.size w).alloc (Nat.le_refl _) _ |>.alloc (by simp) _) hb); clear ho hb; obtain ⟨p0, p1, p2, p3, q0, q1, q2⟩ := cells4 B1.out rfl))
  go_ret
  exact ⟨_, rfl, by omega, ⟨_, blk_put (blk_put (blk_put B1.out 0 _ rfl) 1 _ rfl) 2 _ rfl, R_put3g HO1.out B1.out (by decide) _ _ _⟩, below_put3 HB1.out (by omega) _ _ _⟩
set_option maxHeartbeats 8000000 in
set_option maxRecDepth 100000 in
theorem impl_cacheOf.three (k : Nat) (k1 cp mo : Int) (r1 r2 : Int) (r3 r4 : List S120) (r5 : List Int) (ok : Bool) (w : World) (hk : k1 = 4) (h : impl_ThreeNew.f k cp mo = some (r1, r2, r3, r4, r5, ok)) :
    Calls Try.prog 136 #[.agg #[.int .i64 k1, .int .i64 cp, .int .i64 mo]] w fun e w' => ∃ g, e = .returned (.pointer (some ⟨g, 0, none⟩)) ∧ w.heap.size ≤ g ∧ ThAt w' g w.heap.size r1 r2 r3 r4 r5 ∧ Below w.heap.size w w' := by
  have H := Aside0.mk h
  subst hk
  clear h
  go_enter Try.func136, Try.ntmps136
  go_wp2_with (first | (go_at_call 98; (with_reducible refine (impl_ThreeNew.calls k cp mo r1 r2 r3 r4 r5 ok _ H.out).mono ?_); rintro e w1 ⟨v2, v3, v4, rfl, ho2, ho3, ho4, hb⟩; obtain ⟨A2, c2, rfl⟩ := Kd.R_slice ho2; obtain ⟨A3, c3, rfl⟩ := Kd.R_slice ho3; obtain ⟨A4, c4, rfl⟩ := Kd.R_slice ho4; have B1 := Aside0.mk (show w1.heap[w.heap.size + 1]? = some (.cells #[.int .i64 0, .int .i64 0, .slice none 0 0, .int .i64 0, .int .i64 0, .slice none 0 0, .slice none 0 0, .slice none 0 0] 169 (0, 0)) by have z := blk_below (blk_new (w.alloc _) _) hb; simpa using z); have O2 := Aside0.mk (Kd.R_lower ho2 (show w.heap.size ≤ _ by simp; omega)); have O3 := Aside0.mk (Kd.R_lower ho3 (show w.heap.size ≤ _ by simp; omega)); have O4 := Aside0.mk (Kd.R_lower ho4 (show w.heap.size ≤ _ by simp; omega)); have HB1 := Aside0.mk (below_step ((Below.refl w.heap.size w).alloc (Nat.le_refl _) _ |>.alloc (by simp) _) hb); clear ho2 ho3 ho4 hb; obtain ⟨⟨p0, p1, p2, p3, p4, p5, p6, p7⟩, q3, q4, q5, q6, q7⟩ := cells8 B1.out))
  go_ret
  have KP := keep53 w1 (w.heap.size + 1) (.int .i64 r1) (.int .i64 r2) (.slice A2 r3.length c2) (.slice A3 r4.length c3) (.slice A4 r5.length c4)
  exact ⟨_, rfl, by omega, ⟨_, _, _, put53 B1.out _ _ _ _ _, R_keepG O2.out KP B1.out (by decide), R_keepG O3.out KP B1.out (by decide), R_keepG O4.out KP B1.out (by decide)⟩, below_put53 HB1.out (by omega) _ _ _ _ _⟩
def askGo (k : Nat) (l : List ByteArray) : Nat → Int → Int → Int → List S120 → List Bool → Int → Option (Int × Int × List S120 × List Bool × Int)
  | 0, _, _, _, _, _, _ => none
  | n + 1, x, rk, rc, ri, hs, gn => if x < (l.length : Int) then (if 0 ≤ x then (askRow k rk rc ri (rdOf ByteArray.empty l x)).bind fun a => (if hs.length < 140737488355328 then askGo k l n (wrap64 (x + 1)) a.1 a.2.1 a.2.2.1 (hs ++ [a.2.2.2.1]) (wrap64 (gn + a.2.2.2.2)) else none) else none) else some (rk, rc, ri, hs, gn)
set_option maxHeartbeats 8000000 in
set_option maxRecDepth 100000 in
theorem impl_asked.row (k : Nat) (k1 cp mo : Int) (A : Option Addr) (c : Nat) (l : List ByteArray) (rk rc : Int) (ri : List S120) (ok : Bool) (r1 r2 : Int) (r3 : List S120) (r4 : List Bool) (r5 : Int) (w : World) (hr : Kd.C Kd.string w A l.length l) (hc : l.length ≤ c) (hk : k1 ≠ 4) (h : impl_RowNew.f k k1 cp = some (rk, rc, ri, ok))
    (h2 : askGo k l k 0 rk rc ri [] 0 = some (r1, r2, r3, r4, r5)) :
    Calls Try.prog 75 #[.agg #[.int .i64 k1, .int .i64 cp, .int .i64 mo], .slice A l.length c] w fun e w' => ∃ g v, e = .returned (.tuple #[.pointer (some ⟨g, 0, none⟩), v, .int .i64 r5]) ∧ w.heap.size ≤ g ∧ RowAt w' g w.heap.size r1 r2 r3 ∧ Kd.R Kd.bool 4 w' w.heap.size (fun _ => True) v r4 ∧ Below w.heap.size w w' := by
  have H := Aside0.mk h
  have HR := Aside0.mk hr
  have HNE := Aside0.mk hk
  have H2 := Aside0.mk h2
  clear h hr hk h2
  go_enter Try.func75, Try.ntmps75
  go_wp2_with (first | (go_at_call 136; (with_reducible refine (impl_cacheOf.row k k1 cp mo rk rc ri ok _ HNE.out H.out).mono ?_); rintro e w1 ⟨g, rfl, hgg, hra, hb⟩; have hgw : w.heap.size ≤ g := Nat.le_trans (by simp) hgg; have HGW := Aside0.mk hgw; have HB0 := Aside0.mk (below_step ((Below.refl w.heap.size w).alloc (Nat.le_refl _) _) hb); have RA0 := Aside0.mk (RowAt.lower hra (show w.heap.size ≤ _ by simp)); clear hgg hra hb hgw) | ((with_reducible refine gate_dst (N := 16) rfl ?_); refine Kd.R_lit Kd.bool _ 4 ?hg (N := 16) ?hd (xs := ([] : List Bool)) (inner := []) (ok := fun _ => True) (okp := fun _ => True) ?hr ?hp (fun _ hk => hk) trivial (Below.refl _ _) (Nat.le_refl _) (by simp) ?_; (case hd => rfl); (case hg => rfl); (case hr => first | (go_simp; done) | (go_simp; rfl)); (case hp => exact (Reps.none _ _)); intro vg w2 hog hb hgx hnew; clear hgx hnew; have RA := Aside0.mk (RA0.out.below hb); have HB := Aside0.mk (below_base HB0.out (below_size HB0.out) hb); have HV := Aside0.mk (Kd.R_lower hog (below_size HB0.out)); clear hb hog RA0 HB0))
  obtain ⟨n, hn⟩ : ∃ n, n = k := ⟨_, rfl⟩
  replace H2 := Aside0.mk (show askGo k l n 0 rk rc ri [] 0 = some (r1, r2, r3, r4, r5) by rw [hn]; exact H2.out)
  clear hn
  go_loopg [8, 9, 19] n (fun kq v8 v9 v19 w' => ∃ (x gn qk qc : Int) (qi : List S120) (hs : List Bool), v9 = .int .i64 gn ∧ v19 = .int .i64 x ∧ Aside0 (askGo k l kq x qk qc qi hs gn = some (r1, r2, r3, r4, r5)) ∧ Aside0 (RowAt w' g w.heap.size qk qc qi) ∧ Aside0 (Kd.R Kd.bool 4 w' w.heap.size (fun _ => True) v8 hs) ∧ Aside0 (Below w.heap.size w w'))
  case atStart => exact ⟨0, 0, rk, rc, ri, [], rfl, rfl, H2, RA, HV, HB⟩
  case round =>
    clear H2 RA HV HB
    obtain ⟨x, gn, qk, qc, qi, hs, rfl, rfl, HA, RA, HV, HB⟩ := hrel
    cases gk with
    | zero => exact absurd HA.out (by simp [askGo])
    | succ n1 =>
      have H := HA.out
      clear HA
      simp only [askGo] at H
      by_cases c1 : x < (l.length : Int)
      · rw [if_pos c1] at H
        have c1b : decide (x < (l.length : Int)) = true := decide_eq_true c1
        by_cases c2 : 0 ≤ x
        · rw [if_pos c2] at H
          obtain ⟨⟨b1, b2, b3, b4, b5⟩, HA1, H⟩ := Option.bind_eq_some_iff.mp H
          have HA1 := Aside0.mk HA1
          by_cases c3 : hs.length < 140737488355328
          · rw [if_pos c3] at H
            have H' := Aside0.mk H
            have LM := Aside0.mk c3
            clear H c3
            obtain ⟨ad, e, hx0⟩ := Kd.at_string HR.out x c2 c1
            cases e
            replace hx0 := (HB.out.cell (World.block_lt_of_cell? w _ hx0)).trans hx0
            replace c1 := eq_true c1
            replace c2 := eq_true c2
            go_wp2_with (first | (go_at_call 137; (with_reducible refine (impl_cache_ask.row k g w.heap.size qk qc qi (rdOf ByteArray.empty l x) b1 b2 b3 b4 b5 w _ RA.out HB.out HGW.out HA1.out).mono ?_); rintro e w3 ⟨rfl, hra, hb, hkk⟩; have RA1 := Aside0.mk hra; have HB1 := Aside0.mk hb; have HV1 := Aside0.mk (R_keepRow HV.out hkk RA.out (by decide)); clear hra hb hkk RA HB HV) | ((with_reducible refine gate_builtin (b := .append) (xs := #[.tmp 29, .tmp 31]) rfl ?_); at_builtin; refine Kd.R_append Kd.bool (w0 := w) w.heap.size rfl (.tmp 29) (.tmp 31) 59 4 (.bool false) 1 rfl Try.underlying59 info4 rfl (by decide) (by omega) u8 hs b4 [.bool b4] (fun _ => True) (fun _ => False) rfl rfl ?aP (fun _ hk => hk.elim) ?aF ?aO ?aB ?aS ?aL ?_; (case aP => exact rfl); (case aB => first | exact HB1.out | exact HB1.out.alloc (below_size HB1.out) _); (case aF => exact (fun _ _ => trivial)); (case aO => first | exact HV1.out | exact Kd.R_alloc HV1.out _); (case aS => first | exact below_size HB1.out | exact Nat.le_trans (below_size HB1.out) (by simp)); (case aL => have := LM.out; omega); intro v4 w4 ho hb hg hat; have RA2 : Aside0 (RowAt w4 g w.heap.size b1 b2 b3) := ⟨by first | exact RowAt.grown RA1.out hg (Kd.R_typed HV1.out) (by decide) (by decide) | exact RowAt.grown (RA1.out.alloc _) hg (Kd.R_typed (Kd.R_alloc HV1.out _)) (by decide) (by decide)⟩; have HB2 := Aside0.mk hb; have HV2 := Aside0.mk ho; clear ho hb hg hat RA1 HB1 HV1))
            go_roundg n1
            case measure => omega
            case rel => exact ⟨_, _, _, _, _, _, rfl, rfl, H', RA2, HV2, HB2⟩
          · rw [if_neg c3] at H
            exact absurd H (by simp)
        · rw [if_neg c2] at H
          exact absurd H (by simp)
      · rw [if_neg c1] at H
        simp only [Option.some.injEq, Prod.mk.injEq] at H
        obtain ⟨rfl, rfl, rfl, rfl, rfl⟩ := H
        have c1b : decide (x < (l.length : Int)) = false := decide_eq_false c1
        clear c1
        go_wp2
        go_ret3
        exact ⟨g, _, rfl, HGW.out, RA.out, HV.out, HB.out⟩
def askGoT (k : Nat) (l : List ByteArray) : Nat → Int → Int → Int → List S120 → List S120 → List Int → List Bool → Int → Option (Int × Int × List S120 × List S120 × List Int × List Bool × Int)
  | 0, _, _, _, _, _, _, _, _ => none
  | n + 1, x, t1, t2, t3, t4, t5, hs, gn => if x < (l.length : Int) then (if 0 ≤ x then (askTh k t1 t2 t3 t4 t5 (rdOf ByteArray.empty l x)).bind fun a => (if hs.length < 140737488355328 then askGoT k l n (wrap64 (x + 1)) a.1 a.2.1 a.2.2.1 a.2.2.2.1 a.2.2.2.2.1 (hs ++ [a.2.2.2.2.2.1]) (wrap64 (gn + a.2.2.2.2.2.2)) else none) else none) else some (t1, t2, t3, t4, t5, hs, gn)
set_option maxHeartbeats 8000000 in
set_option maxRecDepth 100000 in
theorem impl_asked.three (k : Nat) (k1 cp mo : Int) (A : Option Addr) (c : Nat) (l : List ByteArray) (t1 t2 : Int) (t3 t4 : List S120) (t5 : List Int) (ok : Bool) (r1 r2 : Int) (r3 r4 : List S120) (r5 : List Int) (r6 : List Bool) (r7 : Int) (w : World) (hr : Kd.C Kd.string w A l.length l) (hc : l.length ≤ c) (hk : k1 = 4) (h : impl_ThreeNew.f k cp mo = some (t1, t2, t3, t4, t5, ok))
    (h2 : askGoT k l k 0 t1 t2 t3 t4 t5 [] 0 = some (r1, r2, r3, r4, r5, r6, r7)) :
    Calls Try.prog 75 #[.agg #[.int .i64 k1, .int .i64 cp, .int .i64 mo], .slice A l.length c] w fun e w' => ∃ g v, e = .returned (.tuple #[.pointer (some ⟨g, 0, none⟩), v, .int .i64 r7]) ∧ w.heap.size ≤ g ∧ ThAt w' g w.heap.size r1 r2 r3 r4 r5 ∧ Kd.R Kd.bool 4 w' w.heap.size (fun _ => True) v r6 ∧ Below w.heap.size w w' := by
  have H := Aside0.mk h
  have HR := Aside0.mk hr
  have HNE := Aside0.mk hk
  have H2 := Aside0.mk h2
  clear h hr hk h2
  go_enter Try.func75, Try.ntmps75
  go_wp2_with (first | (go_at_call 136; (with_reducible refine (impl_cacheOf.three k k1 cp mo t1 t2 t3 t4 t5 ok _ HNE.out H.out).mono ?_); rintro e w1 ⟨g, rfl, hgg, hra, hb⟩; have hgw : w.heap.size ≤ g := Nat.le_trans (by simp) hgg; have HGW := Aside0.mk hgw; have HB0 := Aside0.mk (below_step ((Below.refl w.heap.size w).alloc (Nat.le_refl _) _) hb); have RA0 := Aside0.mk (ThAt.lower hra (show w.heap.size ≤ _ by simp)); clear hgg hra hb hgw) | ((with_reducible refine gate_dst (N := 16) rfl ?_); refine Kd.R_lit Kd.bool _ 4 ?hg (N := 16) ?hd (xs := ([] : List Bool)) (inner := []) (ok := fun _ => True) (okp := fun _ => True) ?hr ?hp (fun _ hk => hk) trivial (Below.refl _ _) (Nat.le_refl _) (by simp) ?_; (case hd => rfl); (case hg => rfl); (case hr => first | (go_simp; done) | (go_simp; rfl)); (case hp => exact (Reps.none _ _)); intro vg w2 hog hb hgx hnew; clear hgx hnew; have RA := Aside0.mk (RA0.out.below hb); have HB := Aside0.mk (below_base HB0.out (below_size HB0.out) hb); have HV := Aside0.mk (Kd.R_lower hog (below_size HB0.out)); clear hb hog RA0 HB0))
  obtain ⟨n, hn⟩ : ∃ n, n = k := ⟨_, rfl⟩
  replace H2 := Aside0.mk (show askGoT k l n 0 t1 t2 t3 t4 t5 [] 0 = some (r1, r2, r3, r4, r5, r6, r7) by rw [hn]; exact H2.out)
  clear hn
  go_loopg [8, 9, 19] n (fun kq v8 v9 v19 w' => ∃ (x gn q1 q2 : Int) (q3 q4 : List S120) (q5 : List Int) (hs : List Bool), v9 = .int .i64 gn ∧ v19 = .int .i64 x ∧ Aside0 (askGoT k l kq x q1 q2 q3 q4 q5 hs gn = some (r1, r2, r3, r4, r5, r6, r7)) ∧ Aside0 (ThAt w' g w.heap.size q1 q2 q3 q4 q5) ∧ Aside0 (Kd.R Kd.bool 4 w' w.heap.size (fun _ => True) v8 hs) ∧ Aside0 (Below w.heap.size w w'))
  case atStart => exact ⟨0, 0, t1, t2, t3, t4, t5, [], rfl, rfl, H2, RA, HV, HB⟩
  case round =>
    clear H2 RA HV HB
    obtain ⟨x, gn, q1, q2, q3, q4, q5, hs, rfl, rfl, HA, RA, HV, HB⟩ := hrel
    cases gk with
    | zero => exact absurd HA.out (by simp [askGoT])
    | succ n1 =>
      have H := HA.out
      clear HA
      simp only [askGoT] at H
      by_cases c1 : x < (l.length : Int)
      · rw [if_pos c1] at H
        have c1b : decide (x < (l.length : Int)) = true := decide_eq_true c1
        by_cases c2 : 0 ≤ x
        · rw [if_pos c2] at H
          obtain ⟨⟨b1, b2, b3, b4, b5, b6, b7⟩, HA1, H⟩ := Option.bind_eq_some_iff.mp H
          have HA1 := Aside0.mk HA1
          by_cases c3 : hs.length < 140737488355328
          · rw [if_pos c3] at H
            have H' := Aside0.mk H
            have LM := Aside0.mk c3
            clear H c3
            obtain ⟨ad, e, hx0⟩ := Kd.at_string HR.out x c2 c1
            cases e
            replace hx0 := (HB.out.cell (World.block_lt_of_cell? w _ hx0)).trans hx0
            replace c1 := eq_true c1
            replace c2 := eq_true c2
            go_wp2_with (first | (go_at_call 137; (with_reducible refine (impl_cache_ask.three k g w.heap.size q1 q2 q3 q4 q5 (rdOf ByteArray.empty l x) b1 b2 b3 b4 b5 b6 b7 w _ RA.out HB.out HGW.out HA1.out).mono ?_); rintro e w3 ⟨rfl, hra, hb, hkk⟩; have RA1 := Aside0.mk hra; have HB1 := Aside0.mk hb; have HV1 := Aside0.mk (R_keepTh HV.out hkk RA.out (by decide)); clear hra hb hkk RA HB HV) | ((with_reducible refine gate_builtin (b := .append) (xs := #[.tmp 29, .tmp 31]) rfl ?_); at_builtin; refine Kd.R_append Kd.bool (w0 := w) w.heap.size rfl (.tmp 29) (.tmp 31) 59 4 (.bool false) 1 rfl Try.underlying59 info4 rfl (by decide) (by omega) u8 hs b6 [.bool b6] (fun _ => True) (fun _ => False) rfl rfl ?aP (fun _ hk => hk.elim) ?aF ?aO ?aB ?aS ?aL ?_; (case aP => exact rfl); (case aB => first | exact HB1.out | exact HB1.out.alloc (below_size HB1.out) _); (case aF => exact (fun _ _ => trivial)); (case aO => first | exact HV1.out | exact Kd.R_alloc HV1.out _); (case aS => first | exact below_size HB1.out | exact Nat.le_trans (below_size HB1.out) (by simp)); (case aL => have := LM.out; omega); intro v4 w4 ho hb hg hat; have RA2 : Aside0 (ThAt w4 g w.heap.size b1 b2 b3 b4 b5) := ⟨by first | exact ThAt.grown RA1.out hg (Kd.R_typed HV1.out) (by decide) (by decide) (by decide) | exact ThAt.grown (RA1.out.alloc _) hg (Kd.R_typed (Kd.R_alloc HV1.out _)) (by decide) (by decide) (by decide)⟩; have HB2 := Aside0.mk hb; have HV2 := Aside0.mk ho; clear ho hb hg hat RA1 HB1 HV1))
            go_roundg n1
            case measure => omega
            case rel => exact ⟨_, _, _, _, _, _, _, _, rfl, rfl, H', RA2, HV2, HB2⟩
          · rw [if_neg c3] at H
            exact absurd H (by simp)
        · rw [if_neg c2] at H
          exact absurd H (by simp)
      · rw [if_neg c1] at H
        simp only [Option.some.injEq, Prod.mk.injEq] at H
        obtain ⟨rfl, rfl, rfl, rfl, rfl, rfl, rfl⟩ := H
        have c1b : decide (x < (l.length : Int)) = false := decide_eq_false c1
        clear c1
        go_wp2
        go_ret3
        exact ⟨g, _, rfl, HGW.out, RA.out, HV.out, HB.out⟩
set_option maxHeartbeats 8000000 in
set_option maxRecDepth 100000 in
theorem impl_cache_keys.row (k : Nat) (g base : Nat) (rk rc : Int) (ri : List S120) (r : List ByteArray) (w : World) (hg : RowAt w g base rk rc ri) (h : impl_RowKeys.f k rk rc ri = some r) :
    Calls Try.prog 76 #[.pointer (some ⟨g, 0, none⟩)] w fun e w' => ∃ v, e = .returned v ∧ Kd.R Kd.string 9 w' w.heap.size (fun _ => True) v r ∧ Below w.heap.size w w' := by
  obtain ⟨V, hb, hr⟩ := hg
  obtain ⟨A, c, rfl, hlc, hC⟩ := Kd.R_reads hr
  have H := Aside0.mk h
  have HC := Aside0.mk hC
  have HLC := Aside0.mk hlc
  obtain ⟨p0, p1, p2, p3, q0, q1, q2⟩ := cells4 hb rfl
  clear h hC hlc hr hb
  go_enter Try.func76, Try.ntmps76
  go_wp2_with (first | (go_at_call 23; (with_reducible refine (impl_RowKeys.calls k rk rc A c ri r _ HC.out HLC.out H.out).mono ?_); rintro e w1 ⟨v, rfl, ho, hb⟩; have HO := Aside0.mk ho; have HB := Aside0.mk hb; clear ho hb))
  go_ret
  exact ⟨_, rfl, HO.out, HB.out⟩
def keysOf (xs : List S120) : List ByteArray := xs.map (·.f0)
set_option maxHeartbeats 8000000 in
set_option maxRecDepth 100000 in
theorem impl_cache_keys.three (g base : Nat) (cp mo : Int) (s m : List S120) (gh : List Int) (w : World) (hg : ThAt w g base cp mo s m gh) (hcp : 0 < cp) (hl : s.length < 1000000 ∧ m.length < 1000000) :
    Calls Try.prog 76 #[.pointer (some ⟨g, 0, none⟩)] w fun e w' => ∃ v, e = .returned v ∧ Kd.R Kd.string 9 w' w.heap.size (fun _ => True) v (keysOf (s ++ m)) ∧ Below w.heap.size w w' := by
  obtain ⟨V2, V3, V4, hb, hr2, hr3, hr4⟩ := hg
  obtain ⟨A2, c2, rfl, l2, k2⟩ := Kd.R_reads hr2
  obtain ⟨A3, c3, rfl, l3, k3⟩ := Kd.R_reads hr3
  have HBK := Aside0.mk hb
  have C2 := Aside0.mk k2
  have C3 := Aside0.mk k3
  have L2 := Aside0.mk l2
  have L3 := Aside0.mk l3
  have HL := Aside0.mk hl
  have HNEG : (cp == 0) = false := beq_eq_false_iff_ne.mpr (by omega)
  obtain ⟨⟨p0, p1, p2, p3, p4, p5, p6, p7⟩, q3, q4, q5, q6, q7⟩ := cells8 hb
  obtain ⟨qs, hqs⟩ : ∃ q, q = s ++ m := ⟨_, rfl⟩
  have HQ := Aside0.mk hqs
  rw [← hqs]
  have HQL : Aside0 (qs.length < 2000000) := ⟨by rw [hqs, List.length_append]; omega⟩
  have HCI := Aside0.mk (show impl_copyItems.f s = some s by unfold impl_copyItems.f; rw [if_pos (by omega)])
  clear hb hr2 hr3 hr4 l2 l3 k2 k3 hcp hqs hl q3 q4 q5 q6 q7
  go_enter Try.func76, Try.ntmps76
  go_wp2_with (first | ((with_reducible refine gate_dst (N := 17) rfl ?_); refine Kd.R_lit Kd.string _ 9 ?hg (N := 17) ?hd (xs := ([] : List ByteArray)) (inner := []) (ok := fun _ => True) (okp := fun _ => True) ?hr ?hp (fun _ hk => hk) trivial (Below.refl _ _) (Nat.le_refl _) (by simp) ?_; (case hd => rfl); (case hg => rfl); (case hr => first | (go_simp; done) | (go_simp; rfl)); (case hp => exact (Reps.none _ _)); intro vg w1 hog hb hgx hnew; clear hgx hnew; obtain ⟨Ag, cg, rfl⟩ := Kd.R_slice hog; have B1 := Aside0.mk (blk_below HBK.out hb); have HG1 := Aside0.mk hog; have HB1 := Aside0.mk hb; have D2 := Aside0.mk (Kd.C_below C2.out hb); have D3 := Aside0.mk (Kd.C_below C3.out hb); clear hog hb p0 p1 p2 p3 p4 p5 p6 p7; obtain ⟨⟨p0, p1, p2, p3, p4, p5, p6, p7⟩, q3, q4, q5, q6, q7⟩ := cells8 B1.out))
  refine start_ (n := 14) (S := fun w' => w'.cell? ⟨g, 5, none⟩ = some (.slice A2 s.length c2) ∧ w'.cell? ⟨g, 6, none⟩ = some (.slice A3 m.length c3)) (ds := []) #[false, false, false, false, false, false, false, false, false, false, false, false, false, false] (by kernel_rfl) rfl rfl ⟨p5, p6⟩ (fun hHeld => ?_)
  clear p0 p1 p2 p3 p4 p5 p6 p7 q3 q4 q5 q6 q7
  refine pure_ (i := 0) (N := some 18) (v := ?_) (a' := ?_) #[true, false, false, false, false, false, false, false, false, false, false, false, false, false] rfl rfl (by kernel_rfl) (fun _ _ _ h => h) (Or.inl ⟨by rfl, ?_⟩) ?_ ?_
  rotate_left
  · intro w'
    go_simp
    with_reducible rfl
  rotate_left
  · simp only [Act.put, lz1, lz2, lz3, i64_w, i32_w]
    rfl
  refine pure_ (i := 1) (N := some 19) (v := ?_) (a' := ?_) #[true, true, false, false, false, false, false, false, false, false, false, false, false, false] rfl rfl (by kernel_rfl) (fun _ _ _ h => h) (Or.inl ⟨by rfl, ?_⟩) ?_ ?_
  rotate_left
  · intro w'
    go_simp
    with_reducible rfl
  rotate_left
  · simp only [Act.put, lz1, lz2, lz3, i64_w, i32_w]
    rfl
  refine pure_ (i := 2) (N := some 20) (v := ?_) (a' := ?_) #[true, true, true, false, false, false, false, false, false, false, false, false, false, false] rfl rfl (by kernel_rfl) (fun _ _ _ h => h) (Or.inl ⟨by rfl, ?_⟩) ?_ ?_
  rotate_left
  · intro w'
    go_simp
    with_reducible rfl
  rotate_left
  · simp only [Act.put, lz1, lz2, lz3, i64_w, i32_w]
    rfl
  refine pure_ (i := 3) (N := some 21) (v := ?_) (a' := ?_) #[true, true, true, true, false, false, false, false, false, false, false, false, false, false] rfl rfl (by kernel_rfl) (fun _ _ _ h => h) (Or.inl ⟨by rfl, ?_⟩) ?_ ?_
  rotate_left
  · intro w'
    go_simp
    with_reducible rfl
  rotate_left
  · simp only [Act.put, lz1, lz2, lz3, i64_w, i32_w]
    rfl
  refine pure_ (i := 6) (N := some 24) (v := ?_) (a' := ?_) #[true, true, true, true, false, false, true, false, false, false, false, false, false, false] rfl rfl (by kernel_rfl) (fun _ _ _ h => h) (Or.inl ⟨by rfl, ?_⟩) ?_ ?_
  rotate_left
  · intro w'
    go_simp
    with_reducible rfl
  rotate_left
  · simp only [Act.put, lz1, lz2, lz3, i64_w, i32_w]
    rfl
  refine pure_ (i := 7) (N := some 25) (v := ?_) (a' := ?_) #[true, true, true, true, false, false, true, true, false, false, false, false, false, false] rfl rfl (by kernel_rfl) (fun _ _ _ h => h) (Or.inl ⟨by rfl, ?_⟩) ?_ ?_
  rotate_left
  · intro w'
    go_simp
    with_reducible rfl
  rotate_left
  · simp only [Act.put, lz1, lz2, lz3, i64_w, i32_w]
    rfl
  refine pure_ (i := 8) (N := some 26) (v := ?_) (a' := ?_) #[true, true, true, true, false, false, true, true, true, false, false, false, false, false] rfl rfl (by kernel_rfl) (fun _ _ _ h => h) (Or.inl ⟨by rfl, ?_⟩) ?_ ?_
  rotate_left
  · intro w'
    go_simp
    with_reducible rfl
  rotate_left
  · simp only [Act.put, lz1, lz2, lz3, i64_w, i32_w]
    rfl
  refine pure_ (i := 9) (N := some 27) (v := ?_) (a' := ?_) #[true, true, true, true, false, false, true, true, true, true, false, false, false, false] rfl rfl (by kernel_rfl) (fun _ _ _ h => h) (Or.inl ⟨by rfl, ?_⟩) ?_ ?_
  rotate_left
  · intro w'
    go_simp
    with_reducible rfl
  rotate_left
  · simp only [Act.put, lz1, lz2, lz3, i64_w, i32_w]
    rfl
  refine pure_ (i := 13) (N := some 31) (v := ?_) (a' := ?_) #[true, true, true, true, false, false, true, true, true, true, false, false, false, true] rfl rfl (by kernel_rfl) (fun _ _ _ h => h) (Or.inl ⟨by rfl, ?_⟩) ?_ ?_
  rotate_left
  · intro w'
    go_simp
    with_reducible rfl
  rotate_left
  · simp only [Act.put, lz1, lz2, lz3, i64_w, i32_w]
    rfl
  refine take_ (i := 4) (N := some 22) (v := ?_) (a' := ?_) #[true, true, true, true, true, false, true, true, true, true, false, false, false, true] rfl rfl (by kernel_rfl) (fun _ _ _ h => h) (Or.inl ⟨by rfl, ?_⟩) hHeld ?_ ?_
  rotate_left
  · rintro w' ⟨s0, s1⟩
    go_simp
    with_reducible rfl
  rotate_left
  · simp only [Act.put, lz1, lz2, lz3, i64_w, i32_w]
    rfl
  refine take_ (i := 10) (N := some 28) (v := ?_) (a' := ?_) #[true, true, true, true, true, false, true, true, true, true, true, false, false, true] rfl rfl (by kernel_rfl) (fun _ _ _ h => h) (Or.inl ⟨by rfl, ?_⟩) hHeld ?_ ?_
  rotate_left
  · rintro w' ⟨s0, s1⟩
    go_simp
    with_reducible rfl
  rotate_left
  · simp only [Act.put, lz1, lz2, lz3, i64_w, i32_w]
    rfl
  refine one_ (i := 5) (N := some 23) #[true, true, true, true, true, true, true, true, true, true, true, false, false, true] rfl rfl (by kernel_rfl) (by decide) (fun K hK => ?_)
  refine goes_ Try.func108 (by kernel_rfl) rfl #[.slice A2 s.length c2] (by rfl) rfl rfl (by (try simp only [List.map_toArray, List.map_cons, List.map_nil]); first | done | rfl) ?_
  (with_reducible refine (impl_copyItems.calls A2 c2 s s _ (Kd.C_drew D2.out) L2.out HCI.out).mono ?_)
  rintro e w2 ⟨v, rfl, ho, hb⟩
  refine ⟨_, rfl, ?_⟩
  have B2 := Aside0.mk (blk_below (blk_drew B1.out) hb)
  have HB2 := Aside0.mk (below_step HB1.out.drew hb)
  have HO2 := Aside0.mk (Kd.R_lower ho (below_size HB1.out.drew))
  have HG2 := Aside0.mk (Kd.R_below (Kd.R_drew HG1.out) hb)
  have E3 := Aside0.mk (Kd.C_below (Kd.C_drew D3.out) hb)
  clear ho hb
  refine hK.out _ _ ⟨(cells8 B2.out).1.2.2.2.2.2.1, (cells8 B2.out).1.2.2.2.2.2.2.1⟩ (fun hHeld => ?_)
  clear hK K B1 HB1
  refine norm_ (a' := ?_) ?_ ?_
  rotate_left
  · show Act.put _ (some 23) _ = _
    simp only [Act.put, lz1, lz2, lz3, i64_w, i32_w]
    rfl
  refine one_ (i := 11) (N := some 29) #[true, true, true, true, true, true, true, true, true, true, true, true, false, true] rfl rfl (by kernel_rfl) (by decide) (fun K hK => ?_)
  refine Kd.R_append_rows_step k120 (w0 := w) w.heap.size (by rfl) (.tmp 23) (.tmp 28) 32 120 (.agg #[(.string ⟨#[]⟩), (.string ⟨#[]⟩), (.int .i64 0)]) 40 rfl Try.underlying32 info120 rfl (by decide) (by omega) v s m A3 m.length c3 (fun _ => True) (fun _ => False) rfl rfl HO2.out E3.out (fun _ _ h => h) (fun _ h => h.elim) (fun _ _ => trivial) HB2.out (below_size HB2.out) (by have := HL.out; omega) ?_
  intro v1 w3 ho hb hg hat
  rw [← HQ.out] at ho
  have B3 := Aside0.mk (blk_grown B2.out hg (Kd.R_ne HO2.out B2.out (by decide)))
  have HB3 := Aside0.mk hb
  have HG3 := Aside0.mk (R_grownT HG2.out hg (Kd.R_typed HO2.out) (by decide))
  obtain ⟨Av, cv, rfl⟩ := Kd.R_slice ho
  have HCV := Aside0.mk ho
  clear ho hb hg hat
  refine hK.out _ _ ⟨(cells8 B3.out).1.2.2.2.2.2.1, (cells8 B3.out).1.2.2.2.2.2.2.1⟩ (fun hHeld => ?_)
  clear hK K B2 HB2 HO2
  refine norm_ (a' := ?_) ?_ ?_
  rotate_left
  · show Act.put _ (some 29) _ = _
    simp only [Act.put, lz1, lz2, lz3, i64_w, i32_w]
    rfl
  refine pure_ (i := 12) (N := some 30) (v := ?_) (a' := ?_) #[true, true, true, true, true, true, true, true, true, true, true, true, true, true] rfl rfl (by kernel_rfl) (fun _ _ _ h => h) (Or.inl ⟨by rfl, ?_⟩) ?_ ?_
  rotate_left
  · intro w'
    go_simp
    with_reducible rfl
  rotate_left
  · simp only [Act.put, lz1, lz2, lz3, i64_w, i32_w]
    rfl
  refine done_ (by kernel_rfl) ?_
  clear hHeld
  go_wp2
  go_loopg [3, 31] (qs.length + 1) (fun kq v3 v31 w' => ∃ (n : Nat) (out : List ByteArray) (Ao : Option Addr) (co : Nat), v3 = .slice Ao out.length co ∧ v31 = .int .i64 n ∧ Aside0 (n + kq = qs.length + 1) ∧ Aside0 (n ≤ qs.length) ∧ Aside0 (out = keysOf (qs.take n)) ∧ Aside0 (Kd.R Kd.string 9 w' w.heap.size (fun _ => True) (.slice Ao out.length co) out) ∧ Aside0 (Kd.R k120 120 w' w.heap.size (fun _ => True) (.slice Av qs.length cv) qs) ∧ Aside0 (Below w.heap.size w w'))
  case atStart => exact ⟨0, ([] : List ByteArray), Ag, cg, rfl, rfl, ⟨by omega⟩, ⟨by omega⟩, ⟨by simp [keysOf]⟩, HG3, HCV, HB3⟩
  case round =>
    clear HG3 HCV HB3 B3 HG1 HG2 E3 D2 D3
    obtain ⟨n, out, Ao, co, rfl, rfl, HI, HLE, HOUT, HO, HCV, HB⟩ := hrel
    by_cases hlt : (n : Int) < (qs.length : Int)
    · have hlt' : n < qs.length := by omega
      obtain ⟨ad, e1, h0, h1, h2⟩ := at_T120 (Kd.R_reads' HCV.out).2.2 (n : Int) (by omega) hlt
      cases e1
      rw [Int.toNat_natCast] at h0 h1 h2
      obtain ⟨y, hy⟩ : ∃ y, y = rd_T120 qs (n : Int) := ⟨_, rfl⟩
      rw [← hy] at h0 h1 h2
      have hyi : qs[n] = y := by rw [hy]; simp [rd_T120, hlt']
      have HK1 : Aside0 (keysOf (qs.take (n + 1)) = out ++ [y.f0]) := ⟨by rw [HOUT.out, List.take_succ_eq_append_getElem hlt', hyi]; simp [keysOf]⟩
      have HOL : Aside0 (out.length ≤ 2000000) := ⟨by rw [HOUT.out]; have := HQL.out; simp [keysOf]; omega⟩
      have HLT := Aside0.mk hlt'
      have q1 : ((n : Int) < (qs.length : Int)) = True := eq_true hlt
      have q2 : (n < qs.length) = True := eq_true hlt'
      have W1 := Aside0.mk (show wrap64 ((n : Int) + 1) = ((n + 1 : Nat) : Int) by have := HQL.out; unfold wrap64; omega)
      have HOA := Aside0.mk (Kd.R_alloc HO.out (.cells #[.string y.f0, .string y.f1, .int .i64 y.f2] 120))
      have HBA := Aside0.mk (HB.out.alloc HB.out.size (.cells #[.string y.f0, .string y.f1, .int .i64 y.f2] 120))
      have HCA := Aside0.mk (Kd.R_alloc HCV.out (.cells #[.string y.f0, .string y.f1, .int .i64 y.f2] 120))
      clear hy hyi hlt hlt'
      obtain ⟨k1, rfl⟩ : ∃ k1, gk = k1 + 1 := ⟨gk - 1, by have := HI.out; have := HLT.out; omega⟩
      obtain ⟨z2, hz2⟩ : ∃ z, z = out ++ [y.f0] := ⟨_, rfl⟩
      have HZ2 := Aside0.mk hz2
      clear hz2
      go_wp2_with (first | ((with_reducible refine gate_builtin (b := .append) (xs := #[.tmp 35, .tmp 38]) rfl ?_); at_builtin; refine Kd.R_append Kd.string (w0 := w) w.heap.size rfl (.tmp 35) (.tmp 38) 23 9 (.string ⟨#[]⟩) 16 rfl Try.underlying23 info9 rfl (by decide) (by omega) (.slice Ao out.length co) out y.f0 [.string y.f0] (fun _ => True) (fun _ => False) rfl (by first | rfl | (refine Eq.trans (b := Value.slice (some ⟨wr.heap.size + 1, 0, none⟩) 1 1) rfl ?_; simp)) ?gP (fun _ hk => hk.elim) ?gF ?gO ?gB ?gS ?gL ?_; (case gP => exact rfl); (case gF => exact (fun _ _ => trivial)); (case gO => exact HOA.out); (case gB => exact HBA.out); (case gS => exact HBA.out.size); (case gL => have := HOL.out; omega); intro v8 w8 ho hb hg hat; rw [← HZ2.out] at ho; obtain ⟨A8, c8, rfl⟩ := Kd.R_slice ho; have HO8 := Aside0.mk ho; have HB8 := Aside0.mk hb; have HC8 := Aside0.mk (R_grownT HCA.out hg (Kd.R_typed HOA.out) (by decide)); clear ho hb hg hat))
      go_roundg k1
      case measure => omega
      case rel => exact ⟨n + 1, z2, A8, c8, rfl, by rw [W1.out], ⟨by have := HI.out; omega⟩, ⟨HLT.out⟩, ⟨by rw [HZ2.out, HK1.out]⟩, HO8, HC8, HB8⟩
    · have hne : n = qs.length := by have := HLE.out; omega
      have HF := Aside0.mk (show out = keysOf qs by rw [HOUT.out, hne, List.take_length])
      subst hne
      clear hlt
      go_wp2
      go_ret
      exact ⟨_, rfl, by rw [← HF.out]; exact HO.out, HB.out⟩
theorem askRow.mono : ∀ a0 a1 a2 a3 k, LeO (askRow k a0 a1 a2 a3) (askRow (k + 1) a0 a1 a2 a3) := by
  intro a0 a1 a2 a3 k
  unfold askRow
  exact LeO.bind (impl_RowGet.mono _ _ _ _ _) (fun _ => LeO.ite (LeO.refl _) (LeO.bind (impl_RowPut.mono _ _ _ _ _ _) (fun _ => LeO.refl _)))
theorem askGo.mono (k : Nat) (l : List ByteArray) : ∀ n a0 a1 a2 a3 a4 a5, LeO (askGo k l n a0 a1 a2 a3 a4 a5) (askGo (k + 1) l (n + 1) a0 a1 a2 a3 a4 a5)
  | 0, _, _, _, _, _, _ => LeO.none _
  | n + 1, a0, a1, a2, a3, a4, a5 => by
    rw [askGo, askGo]
    exact LeO.ite (LeO.ite (LeO.bind (askRow.mono _ _ _ _ _) (fun _ => LeO.ite (askGo.mono k l n _ _ _ _ _ _) (LeO.none _))) (LeO.none _)) (LeO.refl _)
def askSet (k : Nat) (a0_0 a0_1 a0_2 : Int) (l : List ByteArray) : Option (Option (Int × Int × List S120 × List Bool × Int)) :=
  (impl_SetupOk.f k a0_0 a0_1 a0_2).bind fun s => if s = true then (impl_AsksOk.f k l).bind fun b => if b = true then (impl_RowNew.f k a0_0 a0_1).bind fun n => (askGo k l k 0 n.1 n.2.1 n.2.2.1 [] 0).bind fun q => some (some q) else some none else some none
theorem askSet.mono : ∀ a0 a1 a2 a3 k, LeO (askSet k a0 a1 a2 a3) (askSet (k + 1) a0 a1 a2 a3) := by
  intro a0 a1 a2 a3 k
  unfold askSet
  exact LeO.bind (impl_SetupOk.mono _ _ _ _) (fun _ => LeO.ite (LeO.bind (impl_AsksOk.mono _ _) (fun _ => LeO.ite (LeO.bind (impl_RowNew.mono _ _ _) (fun _ => LeO.bind (askGo.mono _ _ _ _ _ _ _ _ _) (fun _ => LeO.refl _))) (LeO.refl _))) (LeO.refl _))
theorem askSet.ways {k : Nat} {a0_0 a0_1 a0_2 : Int} {l : List ByteArray} {r : Option (Int × Int × List S120 × List Bool × Int)} (hne : a0_0 ≠ 4) (h : askSet k a0_0 a0_1 a0_2 l = some r) :
    (impl_SetupOk.f k a0_0 a0_1 a0_2 = some false ∧ r = none) ∨ (impl_SetupOk.f k a0_0 a0_1 a0_2 = some true ∧ impl_AsksOk.f k l = some false ∧ r = none) ∨
    (impl_SetupOk.f k a0_0 a0_1 a0_2 = some true ∧ impl_AsksOk.f k l = some true ∧ a0_0 ≠ 4 ∧ ∃ rk rc ri ok q, impl_RowNew.f k a0_0 a0_1 = some (rk, rc, ri, ok) ∧ askGo k l k 0 rk rc ri [] 0 = some q ∧ r = some q) := by
  obtain ⟨s, h1, h⟩ := Option.bind_eq_some_iff.mp h
  cases s with
  | false => rw [if_neg (by simp)] at h; exact .inl ⟨h1, (Option.some.inj h).symm⟩
  | true =>
    rw [if_pos rfl] at h
    obtain ⟨b, h2, h⟩ := Option.bind_eq_some_iff.mp h
    cases b with
    | false => rw [if_neg (by simp)] at h; exact .inr (.inl ⟨h1, h2, (Option.some.inj h).symm⟩)
    | true =>
      rw [if_pos rfl] at h
      obtain ⟨⟨rk, rc, ri, ok⟩, h3, h⟩ := Option.bind_eq_some_iff.mp h
      obtain ⟨q, h4, h⟩ := Option.bind_eq_some_iff.mp h
      exact .inr (.inr ⟨h1, h2, hne, rk, rc, ri, ok, q, h3, h4, (Option.some.inj h).symm⟩)
theorem askTh.mono : ∀ a0 a1 a2 a3 a4 a5 k, LeO (askTh k a0 a1 a2 a3 a4 a5) (askTh (k + 1) a0 a1 a2 a3 a4 a5) := by
  intro a0 a1 a2 a3 a4 a5 k
  unfold askTh
  exact LeO.ite (LeO.bind (impl_Get.mono _ _ _ _ _ _ _) (fun _ => LeO.ite (LeO.refl _) (LeO.bind (impl_Put.mono _ _ _ _ _ _ _ _) (fun _ => LeO.refl _)))) (LeO.none _)
theorem askGoT.mono (k : Nat) (l : List ByteArray) : ∀ n a0 a1 a2 a3 a4 a5 a6 a7, LeO (askGoT k l n a0 a1 a2 a3 a4 a5 a6 a7) (askGoT (k + 1) l (n + 1) a0 a1 a2 a3 a4 a5 a6 a7)
  | 0, _, _, _, _, _, _, _, _ => LeO.none _
  | n + 1, a0, a1, a2, a3, a4, a5, a6, a7 => by
    rw [askGoT, askGoT]
    exact LeO.ite (LeO.ite (LeO.bind (askTh.mono _ _ _ _ _ _ _) (fun _ => LeO.ite (askGoT.mono k l n _ _ _ _ _ _ _ _) (LeO.none _))) (LeO.none _)) (LeO.refl _)
def askSetT (k : Nat) (a0_0 a0_1 a0_2 : Int) (l : List ByteArray) : Option (Option (Int × Int × List S120 × List S120 × List Int × List Bool × Int)) :=
  (impl_SetupOk.f k a0_0 a0_1 a0_2).bind fun s => if s = true then (impl_AsksOk.f k l).bind fun b => if b = true then (impl_ThreeNew.f k a0_1 a0_2).bind fun n => (askGoT k l k 0 n.1 n.2.1 n.2.2.1 n.2.2.2.1 n.2.2.2.2.1 [] 0).bind fun q => some (some q) else some none else some none
theorem askSetT.mono : ∀ a0 a1 a2 a3 k, LeO (askSetT k a0 a1 a2 a3) (askSetT (k + 1) a0 a1 a2 a3) := by
  intro a0 a1 a2 a3 k
  unfold askSetT
  exact LeO.bind (impl_SetupOk.mono _ _ _ _) (fun _ => LeO.ite (LeO.bind (impl_AsksOk.mono _ _) (fun _ => LeO.ite (LeO.bind (impl_ThreeNew.mono _ _ _) (fun _ => LeO.bind (askGoT.mono _ _ _ _ _ _ _ _ _ _ _) (fun _ => LeO.refl _))) (LeO.refl _))) (LeO.refl _))
theorem askSetT.ways {k : Nat} {a0_0 a0_1 a0_2 : Int} {l : List ByteArray} {r : Option (Int × Int × List S120 × List S120 × List Int × List Bool × Int)} (h : askSetT k a0_0 a0_1 a0_2 l = some r) :
    (impl_SetupOk.f k a0_0 a0_1 a0_2 = some false ∧ r = none) ∨ (impl_SetupOk.f k a0_0 a0_1 a0_2 = some true ∧ impl_AsksOk.f k l = some false ∧ r = none) ∨
    (impl_SetupOk.f k a0_0 a0_1 a0_2 = some true ∧ impl_AsksOk.f k l = some true ∧ ∃ t1 t2 t3 t4 t5 ok q, impl_ThreeNew.f k a0_1 a0_2 = some (t1, t2, t3, t4, t5, ok) ∧ askGoT k l k 0 t1 t2 t3 t4 t5 [] 0 = some q ∧ r = some q) := by
  obtain ⟨s, h1, h⟩ := Option.bind_eq_some_iff.mp h
  cases s with
  | false => rw [if_neg (by simp)] at h; exact .inl ⟨h1, (Option.some.inj h).symm⟩
  | true =>
    rw [if_pos rfl] at h
    obtain ⟨b, h2, h⟩ := Option.bind_eq_some_iff.mp h
    cases b with
    | false => rw [if_neg (by simp)] at h; exact .inr (.inl ⟨h1, h2, (Option.some.inj h).symm⟩)
    | true =>
      rw [if_pos rfl] at h
      obtain ⟨⟨t1, t2, t3, t4, t5, ok⟩, h3, h⟩ := Option.bind_eq_some_iff.mp h
      obtain ⟨q, h4, h⟩ := Option.bind_eq_some_iff.mp h
      exact .inr (.inr ⟨h1, h2, t1, t2, t3, t4, t5, ok, q, h3, h4, (Option.some.inj h).symm⟩)
def impl_Holds.fR (k : Nat) (a0_0 a0_1 a0_2 : Int) (l1 : List ByteArray) : Option (List ByteArray) :=
  (askSet k a0_0 a0_1 a0_2 l1).bind fun o => match o with | none => some [] | some q => impl_RowKeys.f k q.1 q.2.1 q.2.2.1
theorem impl_Holds.monoR : ∀ a0 a1 a2 a3 k, LeO (impl_Holds.fR k a0 a1 a2 a3) (impl_Holds.fR (k + 1) a0 a1 a2 a3) := by
  intro a0 a1 a2 a3 k
  unfold impl_Holds.fR
  refine LeO.bind (askSet.mono _ _ _ _ _) (fun o => ?_)
  cases o with
  | none => exact LeO.refl _
  | some q => exact impl_RowKeys.mono _ _ _ _
set_option maxHeartbeats 8000000 in
set_option maxRecDepth 100000 in
theorem impl_Holds.callsR (k : Nat) (a0_0 a0_1 a0_2 : Int) (A1 : Option Addr) (c1 : Nat) (l1 : List ByteArray) (r : List ByteArray) (w : World) (hr1 : Kd.C Kd.string w A1 l1.length l1) (hc1 : l1.length ≤ c1) (hk4 : a0_0 ≠ 4) (h : impl_Holds.fR k a0_0 a0_1 a0_2 l1 = some r) :
    Calls Try.prog 17 #[.agg #[.int .i64 a0_0, .int .i64 a0_1, .int .i64 a0_2], .slice A1 l1.length c1] w fun e w' => ∃ v0_ : Value, e = .returned (v0_) ∧ Kd.R Kd.string 9 w' w.heap.size (fun _ => True) v0_ r ∧ Below w.heap.size w w' := by
  have HR := Aside0.mk hr1
  have HC := Aside0.mk hc1
  obtain ⟨o, h1, h2⟩ := Option.bind_eq_some_iff.mp h
  clear hr1 hc1 h
  rcases askSet.ways hk4 h1 with ⟨h3, rfl⟩ | ⟨h3, h4, rfl⟩ | ⟨h3, h4, hne, rk, rc, ri, ok, q, h5, h6, rfl⟩
  · have OK := Aside0.mk h3
    obtain rfl := Option.some.inj h2
    clear h1 h2 h3
    go_enter Try.func17, Try.ntmps17
    go_wp2_with (first | (go_at_call 33; (with_reducible refine (impl_SetupOk.calls k a0_0 a0_1 a0_2 false _ OK.out).mono ?_); rintro e w1 ⟨rfl, hb⟩; have HB1 := Aside0.mk (below_step ((Below.refl w.heap.size w).alloc (Nat.le_refl _) _) hb); have BB := Aside0.mk (show w1.heap[w.heap.size]? = some (.cells #[.int .i64 a0_0, .int .i64 a0_1, .int .i64 a0_2] 28 (0, 0)) from blk_below (blk_new w _) hb); have HRA := Aside0.mk (Kd.C_below (Kd.C_alloc HR.out _) hb); clear hb; obtain ⟨⟨p0, p1, p2⟩, q0, q1, q2⟩ := cells3 BB.out))
    go_ret
    exact ⟨_, rfl, Kd.R_nil _ _ _ _ _, HB1.out⟩
  · have OK := Aside0.mk h3
    have AOK := Aside0.mk h4
    obtain rfl := Option.some.inj h2
    clear h1 h2 h3 h4
    go_enter Try.func17, Try.ntmps17
    go_wp2_with (first | (go_at_call 33; (with_reducible refine (impl_SetupOk.calls k a0_0 a0_1 a0_2 true _ OK.out).mono ?_); rintro e w1 ⟨rfl, hb⟩; have HB1 := Aside0.mk (below_step ((Below.refl w.heap.size w).alloc (Nat.le_refl _) _) hb); have BB := Aside0.mk (show w1.heap[w.heap.size]? = some (.cells #[.int .i64 a0_0, .int .i64 a0_1, .int .i64 a0_2] 28 (0, 0)) from blk_below (blk_new w _) hb); have HRA := Aside0.mk (Kd.C_below (Kd.C_alloc HR.out _) hb); clear hb; obtain ⟨⟨p0, p1, p2⟩, q0, q1, q2⟩ := cells3 BB.out) | (go_at_call 37; (with_reducible refine (impl_AsksOk.calls k A1 c1 l1 false _ HRA.out HC.out AOK.out).mono ?_); rintro e w2 ⟨rfl, hb⟩; have HB2 := Aside0.mk (below_step HB1.out hb); have BB2 := Aside0.mk (blk_below BB.out hb); have HRB := Aside0.mk (Kd.C_below HRA.out hb); clear hb p0 p1 p2 q0 q1 q2; obtain ⟨⟨p0, p1, p2⟩, q0, q1, q2⟩ := cells3 BB2.out))
    go_ret
    exact ⟨_, rfl, Kd.R_nil _ _ _ _ _, HB2.out⟩
  · have OK := Aside0.mk h3
    have AOK := Aside0.mk h4
    have NE4 := Aside0.mk hne
    have NW := Aside0.mk h5
    obtain ⟨y1, y2, y3, y4, y5⟩ := q
    have GO := Aside0.mk h6
    have KK := Aside0.mk h2
    clear h1 h2 h3 h4 hne h5 h6
    go_enter Try.func17, Try.ntmps17
    go_wp2_with (first | (go_at_call 33; (with_reducible refine (impl_SetupOk.calls k a0_0 a0_1 a0_2 true _ OK.out).mono ?_); rintro e w1 ⟨rfl, hb⟩; have HB1 := Aside0.mk (below_step ((Below.refl w.heap.size w).alloc (Nat.le_refl _) _) hb); have BB := Aside0.mk (show w1.heap[w.heap.size]? = some (.cells #[.int .i64 a0_0, .int .i64 a0_1, .int .i64 a0_2] 28 (0, 0)) from blk_below (blk_new w _) hb); have HRA := Aside0.mk (Kd.C_below (Kd.C_alloc HR.out _) hb); clear hb; obtain ⟨⟨p0, p1, p2⟩, q0, q1, q2⟩ := cells3 BB.out) | (go_at_call 37; (with_reducible refine (impl_AsksOk.calls k A1 c1 l1 true _ HRA.out HC.out AOK.out).mono ?_); rintro e w2 ⟨rfl, hb⟩; have HB2 := Aside0.mk (below_step HB1.out hb); have BB2 := Aside0.mk (blk_below BB.out hb); have HRB := Aside0.mk (Kd.C_below HRA.out hb); clear hb p0 p1 p2 q0 q1 q2; obtain ⟨⟨p0, p1, p2⟩, q0, q1, q2⟩ := cells3 BB2.out) | (go_at_call 75; (with_reducible refine (impl_asked.row k a0_0 a0_1 a0_2 A1 c1 l1 rk rc ri ok y1 y2 y3 y4 y5 _ HRB.out HC.out NE4.out NW.out GO.out).mono ?_); rintro e w3 ⟨g, v, rfl, hgg, hra, hv, hb⟩; have HB3 := Aside0.mk (below_step HB2.out hb); have HV := Aside0.mk (Kd.R_lower hv (below_size HB2.out)); have RA := Aside0.mk (RowAt.lower hra (below_size HB2.out)); clear hb hv hra hgg p0 p1 p2) | (go_at_call 76; (with_reducible refine (impl_cache_keys.row k g _ y1 y2 y3 r _ RA.out KK.out).mono ?_); rintro e w4 ⟨v4, rfl, ho, hb⟩; have HB4 := Aside0.mk (below_step HB3.out hb); have HO4 := Aside0.mk (Kd.R_lower ho (below_size HB3.out)); clear ho hb))
    go_ret
    exact ⟨_, rfl, HO4.out, HB4.out⟩
def impl_Holds.fT (k : Nat) (a0_0 a0_1 a0_2 : Int) (l1 : List ByteArray) : Option (List ByteArray) :=
  (askSetT k a0_0 a0_1 a0_2 l1).bind fun o => match o with | none => some [] | some q => if 0 < q.1 ∧ q.2.2.1.length < 1000000 ∧ q.2.2.2.1.length < 1000000 then some (keysOf (q.2.2.1 ++ q.2.2.2.1)) else none
theorem impl_Holds.monoT : ∀ a0 a1 a2 a3 k, LeO (impl_Holds.fT k a0 a1 a2 a3) (impl_Holds.fT (k + 1) a0 a1 a2 a3) := by
  intro a0 a1 a2 a3 k
  unfold impl_Holds.fT
  refine LeO.bind (askSetT.mono _ _ _ _ _) (fun o => ?_)
  cases o with
  | none => exact LeO.refl _
  | some q => exact LeO.refl _
set_option maxHeartbeats 8000000 in
set_option maxRecDepth 100000 in
theorem impl_Holds.callsT (k : Nat) (a0_0 a0_1 a0_2 : Int) (A1 : Option Addr) (c1 : Nat) (l1 : List ByteArray) (r : List ByteArray) (w : World) (hr1 : Kd.C Kd.string w A1 l1.length l1) (hc1 : l1.length ≤ c1) (hk4 : a0_0 = 4) (h : impl_Holds.fT k a0_0 a0_1 a0_2 l1 = some r) :
    Calls Try.prog 17 #[.agg #[.int .i64 a0_0, .int .i64 a0_1, .int .i64 a0_2], .slice A1 l1.length c1] w fun e w' => ∃ v0_ : Value, e = .returned (v0_) ∧ Kd.R Kd.string 9 w' w.heap.size (fun _ => True) v0_ r ∧ Below w.heap.size w w' := by
  have NE4 := Aside0.mk hk4
  clear hk4
  have HR := Aside0.mk hr1
  have HC := Aside0.mk hc1
  obtain ⟨o, h1, h2⟩ := Option.bind_eq_some_iff.mp h
  clear hr1 hc1 h
  rcases askSetT.ways h1 with ⟨h3, rfl⟩ | ⟨h3, h4, rfl⟩ | ⟨h3, h4, t1, t2, t3, t4, t5, ok, q, h5, h6, rfl⟩
  · have OK := Aside0.mk h3
    obtain rfl := Option.some.inj h2
    clear h1 h2 h3
    go_enter Try.func17, Try.ntmps17
    go_wp2_with (first | (go_at_call 33; (with_reducible refine (impl_SetupOk.calls k a0_0 a0_1 a0_2 false _ OK.out).mono ?_); rintro e w1 ⟨rfl, hb⟩; have HB1 := Aside0.mk (below_step ((Below.refl w.heap.size w).alloc (Nat.le_refl _) _) hb); have BB := Aside0.mk (show w1.heap[w.heap.size]? = some (.cells #[.int .i64 a0_0, .int .i64 a0_1, .int .i64 a0_2] 28 (0, 0)) from blk_below (blk_new w _) hb); have HRA := Aside0.mk (Kd.C_below (Kd.C_alloc HR.out _) hb); clear hb; obtain ⟨⟨p0, p1, p2⟩, q0, q1, q2⟩ := cells3 BB.out))
    go_ret
    exact ⟨_, rfl, Kd.R_nil _ _ _ _ _, HB1.out⟩
  · have OK := Aside0.mk h3
    have AOK := Aside0.mk h4
    obtain rfl := Option.some.inj h2
    clear h1 h2 h3 h4
    go_enter Try.func17, Try.ntmps17
    go_wp2_with (first | (go_at_call 33; (with_reducible refine (impl_SetupOk.calls k a0_0 a0_1 a0_2 true _ OK.out).mono ?_); rintro e w1 ⟨rfl, hb⟩; have HB1 := Aside0.mk (below_step ((Below.refl w.heap.size w).alloc (Nat.le_refl _) _) hb); have BB := Aside0.mk (show w1.heap[w.heap.size]? = some (.cells #[.int .i64 a0_0, .int .i64 a0_1, .int .i64 a0_2] 28 (0, 0)) from blk_below (blk_new w _) hb); have HRA := Aside0.mk (Kd.C_below (Kd.C_alloc HR.out _) hb); clear hb; obtain ⟨⟨p0, p1, p2⟩, q0, q1, q2⟩ := cells3 BB.out) | (go_at_call 37; (with_reducible refine (impl_AsksOk.calls k A1 c1 l1 false _ HRA.out HC.out AOK.out).mono ?_); rintro e w2 ⟨rfl, hb⟩; have HB2 := Aside0.mk (below_step HB1.out hb); have BB2 := Aside0.mk (blk_below BB.out hb); have HRB := Aside0.mk (Kd.C_below HRA.out hb); clear hb p0 p1 p2 q0 q1 q2; obtain ⟨⟨p0, p1, p2⟩, q0, q1, q2⟩ := cells3 BB2.out))
    go_ret
    exact ⟨_, rfl, Kd.R_nil _ _ _ _ _, HB2.out⟩
  · have OK := Aside0.mk h3
    have AOK := Aside0.mk h4
    have NW := Aside0.mk h5
    obtain ⟨y1, y2, y3, y4, y5, y6, y7⟩ := q
    have GO := Aside0.mk h6
    by_cases hql : 0 < y1 ∧ y3.length < 1000000 ∧ y4.length < 1000000
    case neg => replace h2 : (if 0 < y1 ∧ y3.length < 1000000 ∧ y4.length < 1000000 then some (keysOf (y3 ++ y4)) else none) = some r := h2; rw [if_neg hql] at h2; exact absurd h2 (by simp)
    replace h2 : (if 0 < y1 ∧ y3.length < 1000000 ∧ y4.length < 1000000 then some (keysOf (y3 ++ y4)) else none) = some r := h2
    rw [if_pos hql] at h2
    obtain rfl := Option.some.inj h2
    have KK := Aside0.mk hql
    clear h1 h2 h3 h4 h5 h6
    go_enter Try.func17, Try.ntmps17
    go_wp2_with (first | (go_at_call 33; (with_reducible refine (impl_SetupOk.calls k a0_0 a0_1 a0_2 true _ OK.out).mono ?_); rintro e w1 ⟨rfl, hb⟩; have HB1 := Aside0.mk (below_step ((Below.refl w.heap.size w).alloc (Nat.le_refl _) _) hb); have BB := Aside0.mk (show w1.heap[w.heap.size]? = some (.cells #[.int .i64 a0_0, .int .i64 a0_1, .int .i64 a0_2] 28 (0, 0)) from blk_below (blk_new w _) hb); have HRA := Aside0.mk (Kd.C_below (Kd.C_alloc HR.out _) hb); clear hb; obtain ⟨⟨p0, p1, p2⟩, q0, q1, q2⟩ := cells3 BB.out) | (go_at_call 37; (with_reducible refine (impl_AsksOk.calls k A1 c1 l1 true _ HRA.out HC.out AOK.out).mono ?_); rintro e w2 ⟨rfl, hb⟩; have HB2 := Aside0.mk (below_step HB1.out hb); have BB2 := Aside0.mk (blk_below BB.out hb); have HRB := Aside0.mk (Kd.C_below HRA.out hb); clear hb p0 p1 p2 q0 q1 q2; obtain ⟨⟨p0, p1, p2⟩, q0, q1, q2⟩ := cells3 BB2.out) | (go_at_call 75; (with_reducible refine (impl_asked.three k a0_0 a0_1 a0_2 A1 c1 l1 t1 t2 t3 t4 t5 ok y1 y2 y3 y4 y5 y6 y7 _ HRB.out HC.out NE4.out NW.out GO.out).mono ?_); rintro e w3 ⟨g, v, rfl, hgg, hra, hv, hb⟩; have HB3 := Aside0.mk (below_step HB2.out hb); have HV := Aside0.mk (Kd.R_lower hv (below_size HB2.out)); have RA := Aside0.mk (ThAt.lower hra (below_size HB2.out)); clear hb hv hra hgg p0 p1 p2) | (go_at_call 76; (with_reducible refine (impl_cache_keys.three g _ y1 y2 y3 y4 y5 _ RA.out KK.out.1 KK.out.2).mono ?_); rintro e w4 ⟨v4, rfl, ho, hb⟩; have HB4 := Aside0.mk (below_step HB3.out hb); have HO4 := Aside0.mk (Kd.R_lower ho (below_size HB3.out)); clear ho hb))
    go_ret
    exact ⟨_, rfl, HO4.out, HB4.out⟩
def impl_Holds.f (k : Nat) (a0_0 a0_1 a0_2 : Int) (l1 : List ByteArray) : Option (List ByteArray) := if a0_0 = 4 then impl_Holds.fT k a0_0 a0_1 a0_2 l1 else impl_Holds.fR k a0_0 a0_1 a0_2 l1
theorem impl_Holds.mono : ∀ a0 a1 a2 a3 k, LeO (impl_Holds.f k a0 a1 a2 a3) (impl_Holds.f (k + 1) a0 a1 a2 a3) := by
  intro a0 a1 a2 a3 k
  unfold impl_Holds.f
  exact LeO.ite (impl_Holds.monoT _ _ _ _ _) (impl_Holds.monoR _ _ _ _ _)
theorem impl_Holds.calls (k : Nat) (a0_0 a0_1 a0_2 : Int) (A1 : Option Addr) (c1 : Nat) (l1 : List ByteArray) (r : List ByteArray) (w : World) (hr1 : Kd.C Kd.string w A1 l1.length l1) (hc1 : l1.length ≤ c1) (h : impl_Holds.f k a0_0 a0_1 a0_2 l1 = some r) :
    Calls Try.prog 17 #[.agg #[.int .i64 a0_0, .int .i64 a0_1, .int .i64 a0_2], .slice A1 l1.length c1] w fun e w' => ∃ v0_ : Value, e = .returned (v0_) ∧ Kd.R Kd.string 9 w' w.heap.size (fun _ => True) v0_ r ∧ Below w.heap.size w w' := by
  unfold impl_Holds.f at h
  by_cases c : a0_0 = 4
  · rw [if_pos c] at h
    exact impl_Holds.callsT k a0_0 a0_1 a0_2 A1 c1 l1 r w hr1 hc1 c h
  · rw [if_neg c] at h
    exact impl_Holds.callsR k a0_0 a0_1 a0_2 A1 c1 l1 r w hr1 hc1 c h
def impl_hitsIn.l0 : Nat → Int → List Bool → Int → Int → Option (Int)
  | 0, _, _, _, _ => none
  | k + 1, x3, x6, x7, x8 => if x8 < x7 then (if 0 ≤ x8 then (if x8 < (x6.length : Int) then (if rdOf false x6 x8 = true then (impl_hitsIn.l0 k (wrap64 (x3 + 1)) x6 x7 (wrap64 (x8 + 1))) else (impl_hitsIn.l0 k x3 x6 x7 (wrap64 (x8 + 1)))) else (none)) else (none)) else (some x3)
def impl_hitsIn.f (k : Nat) (l0 : List Bool) : Option (Int) := impl_hitsIn.l0 k 0 l0 (l0.length : Int) 0
theorem impl_hitsIn.mono_l : ∀ k, (∀ y0 y1 y2 y3, LeO (impl_hitsIn.l0 k y0 y1 y2 y3) (impl_hitsIn.l0 (k + 1) y0 y1 y2 y3))
  | 0 => fun _ _ _ _ r h => by simp [impl_hitsIn.l0] at h
  | k + 1 => by
    have ih0 := impl_hitsIn.mono_l k
    · intro y0 y1 y2 y3
      unfold impl_hitsIn.l0
      repeat' first
      | (with_reducible exact ih0 _ _ _ _)
      | (with_reducible exact LeO.refl _)
      | (with_reducible exact LeO.none _)
      | (with_reducible refine LeO.ite ?_ ?_)
      | (with_reducible refine LeO.bind ?_ (fun _ => ?_))
      | exact ih0 _ _ _ _
      | exact LeO.none _
      | refine LeO.ite ?_ ?_
      | refine LeO.bind ?_ (fun _ => ?_)
theorem impl_hitsIn.mono : ∀ a0 k, LeO (impl_hitsIn.f k a0) (impl_hitsIn.f (k + 1) a0) := by
  intro a0 k
  have ih0 := impl_hitsIn.mono_l k
  unfold impl_hitsIn.f
  repeat' first
      | (with_reducible exact ih0 _ _ _ _)
      | (with_reducible exact LeO.refl _)
      | (with_reducible exact LeO.none _)
      | (with_reducible refine LeO.ite ?_ ?_)
      | (with_reducible refine LeO.bind ?_ (fun _ => ?_))
      | exact ih0 _ _ _ _
      | exact LeO.none _
      | refine LeO.ite ?_ ?_
      | refine LeO.bind ?_ (fun _ => ?_)
set_option maxHeartbeats 8000000 in
set_option maxRecDepth 100000 in
theorem impl_hitsIn.calls (k : Nat) (A0 : Option Addr) (c0 : Nat) (l0 : List Bool) (r : Int) (w : World) (hr0 : Kd.C Kd.bool w A0 l0.length l0) (hc0 : l0.length ≤ c0) (h : impl_hitsIn.f k l0 = some r) :
    Calls Try.prog 83 #[.slice A0 l0.length c0] w fun e w' => e = .returned (.int .i64 r) ∧ Drawn0 w w' := by
  have HR0 := Aside0.mk hr0
  have HC0 := Aside0.mk hc0
  clear hr0 hc0
  have H : (impl_hitsIn.l0 k 0 l0 (l0.length : Int) 0) = some r := h
  clear h
  have H' := Aside0.mk H
  clear H
  go_enter Try.func83, Try.ntmps83
  go_wp2
  go_loopg [3, 8] k (fun kq v3 v8 w' => ∃ (x3_1 : Int) (x8_1 : Int), v3 = .int .i64 x3_1 ∧ v8 = .int .i64 x8_1 ∧ Aside0 (impl_hitsIn.l0 kq x3_1 l0 (l0.length : Int) x8_1 = some r) ∧ Aside0 (kq ≤ k) ∧ Drawn0 w w')
  case atStart => exact ⟨(0), (0), (by first | rfl | (simp; done) | (simp [*]; done)), (by first | rfl | (simp; done) | (simp [*]; done)), H', ⟨Nat.le_refl _⟩, by repeat (first | exact Drawn0.refl _ | apply Drawn0.step)⟩
  case round =>
    clear H'
    obtain ⟨x3_1, x8_1, rfl, rfl, HA, HK1, ⟨m1, rfl⟩⟩ := hrel
    cases gk with
    | zero => exact absurd HA.out (by simp [impl_hitsIn.l0])
    | succ k1 =>
      have H := HA.out
      clear HA
      simp only [impl_hitsIn.l0] at H
      by_cases c2 : x8_1 < (l0.length : Int)
      · rw [if_pos c2] at H
        have c2b0 : decide (x8_1 < (l0.length : Int)) = true := decide_eq_true c2
        clear c2
        by_cases c3 : 0 ≤ x8_1
        · rw [if_pos c3] at H
          have c3b0 : decide (0 ≤ x8_1) = true := decide_eq_true c3
          clear c3
          by_cases c4 : x8_1 < (l0.length : Int)
          · rw [if_pos c4] at H
            have c4b0 : decide (x8_1 < (l0.length : Int)) = true := decide_eq_true c4
            clear c4
            obtain ⟨bq5, hbq5⟩ : ∃ b_ : Bool, b_ = (rdOf false l0 x8_1) := ⟨_, rfl⟩
            replace H : (if bq5 = true then (impl_hitsIn.l0 k1 (wrap64 (x3_1 + 1)) l0 (l0.length : Int) (wrap64 (x8_1 + 1))) else (impl_hitsIn.l0 k1 x3_1 l0 (l0.length : Int) (wrap64 (x8_1 + 1)))) = some r := by rw [← hbq5] at H; exact H
            have Nbq5 := Aside0.mk hbq5
            clear hbq5
            by_cases c6 : bq5 = true
            · subst c6
              have H1 : (impl_hitsIn.l0 k1 (wrap64 (x3_1 + 1)) l0 (l0.length : Int) (wrap64 (x8_1 + 1))) = some r := by rw [if_pos rfl] at H; exact H
              clear H
              have H := H1
              clear H1
              have H' := Aside0.mk H
              clear H
              have p320 : 0 ≤ (x8_1 : Int) := of_decide_eq_true (by first | (with_reducible assumption) | assumption)
              have q320 : x8_1 < (l0.length : Int) := of_decide_eq_true (by first | (with_reducible assumption) | assumption)
              obtain ⟨ad320, e320, hx320_0⟩ := Kd.at_bool HR0.out x8_1 p320 q320
              (try rw [← Nbq5.out] at hx320_0)
              cases e320
              replace p320 := eq_true p320
              replace q320 := eq_true q320
              go_wp2
              go_roundg k1
              case measure => have := HK1.out; omega
              case rel => exact ⟨(wrap64 (x3_1 + 1)), (wrap64 (x8_1 + 1)), (by first | rfl | (simp; done) | (simp [*]; done)), (by first | rfl | (simp; done) | (simp [*]; done)), H', ⟨by have := HK1.out; omega⟩, by repeat (first | exact Drawn0.refl _ | apply Drawn0.step)⟩
            · replace c6 := Bool.eq_false_iff.mpr c6
              subst c6
              have H1 : (impl_hitsIn.l0 k1 x3_1 l0 (l0.length : Int) (wrap64 (x8_1 + 1))) = some r := by rw [if_neg (show ¬ (false = true) by decide)] at H; exact H
              clear H
              have H := H1
              clear H1
              have H' := Aside0.mk H
              clear H
              have p320 : 0 ≤ (x8_1 : Int) := of_decide_eq_true (by first | (with_reducible assumption) | assumption)
              have q320 : x8_1 < (l0.length : Int) := of_decide_eq_true (by first | (with_reducible assumption) | assumption)
              obtain ⟨ad320, e320, hx320_0⟩ := Kd.at_bool HR0.out x8_1 p320 q320
              (try rw [← Nbq5.out] at hx320_0)
              cases e320
              replace p320 := eq_true p320
              replace q320 := eq_true q320
              go_wp2
              go_roundg k1
              case measure => have := HK1.out; omega
              case rel => exact ⟨(x3_1), (wrap64 (x8_1 + 1)), (by first | rfl | (simp; done) | (simp [*]; done)), (by first | rfl | (simp; done) | (simp [*]; done)), H', ⟨by have := HK1.out; omega⟩, by repeat (first | exact Drawn0.refl _ | apply Drawn0.step)⟩
          · rw [if_neg c4] at H
            exact absurd H (by simp)
        · rw [if_neg c3] at H
          exact absurd H (by simp)
      · rw [if_neg c2] at H
        have c2b0 : decide (x8_1 < (l0.length : Int)) = false := decide_eq_false c2
        clear c2
        obtain rfl := Option.some.inj H
        go_wp2
        go_ret
        exact ⟨by first | rfl | (simp; done) | (simp [*]; done), by repeat (first | exact Drawn0.refl _ | apply Drawn0.step)⟩
def impl_CountOf.fR (k : Nat) (a0_0 a0_1 a0_2 : Int) (l1 : List ByteArray) : Option (Int × Int × Int × Int) :=
  (askSet k a0_0 a0_1 a0_2 l1).bind fun o => match o with | none => some (0, 0, 0, 0) | some q => (impl_hitsIn.f k q.2.2.2.1).bind fun n => some ((l1.length : Int), n, wrap64 ((l1.length : Int) - n), q.2.2.2.2)
theorem impl_CountOf.monoR : ∀ a0 a1 a2 a3 k, LeO (impl_CountOf.fR k a0 a1 a2 a3) (impl_CountOf.fR (k + 1) a0 a1 a2 a3) := by
  intro a0 a1 a2 a3 k
  unfold impl_CountOf.fR
  refine LeO.bind (askSet.mono _ _ _ _ _) (fun o => ?_)
  cases o with
  | none => exact LeO.refl _
  | some q => exact LeO.bind (impl_hitsIn.mono _ _) (fun _ => LeO.refl _)
set_option maxHeartbeats 8000000 in
set_option maxRecDepth 100000 in
theorem impl_CountOf.callsR (k : Nat) (a0_0 a0_1 a0_2 : Int) (A1 : Option Addr) (c1 : Nat) (l1 : List ByteArray) (r1 r2 r3 r4 : Int) (w : World) (hr1 : Kd.C Kd.string w A1 l1.length l1) (hc1 : l1.length ≤ c1) (hk4 : a0_0 ≠ 4) (h : impl_CountOf.fR k a0_0 a0_1 a0_2 l1 = some (r1, r2, r3, r4)) :
    Calls Try.prog 25 #[.agg #[.int .i64 a0_0, .int .i64 a0_1, .int .i64 a0_2], .slice A1 l1.length c1] w fun e w' => e = .returned (.agg #[.int .i64 r1, .int .i64 r2, .int .i64 r3, .int .i64 r4]) ∧ Below w.heap.size w w' := by
  have HR := Aside0.mk hr1
  have HC := Aside0.mk hc1
  obtain ⟨o, h1, h2⟩ := Option.bind_eq_some_iff.mp h
  clear hr1 hc1 h
  rcases askSet.ways hk4 h1 with ⟨h3, rfl⟩ | ⟨h3, h4, rfl⟩ | ⟨h3, h4, hne, rk, rc, ri, ok, q, h5, h6, rfl⟩
  · have OK := Aside0.mk h3
    simp only [Option.some.injEq, Prod.mk.injEq] at h2
    obtain ⟨rfl, rfl, rfl, rfl⟩ := h2
    clear h1 h3
    go_enter Try.func25, Try.ntmps25
    go_wp2_with (first | (go_at_call 33; (with_reducible refine (impl_SetupOk.calls k a0_0 a0_1 a0_2 false _ OK.out).mono ?_); rintro e w1 ⟨rfl, hb⟩; have HB1 := Aside0.mk (below_step ((Below.refl w.heap.size w).alloc (Nat.le_refl _) _ |>.alloc (by simp) _) hb); have BB := Aside0.mk (show w1.heap[w.heap.size]? = some (.cells #[.int .i64 a0_0, .int .i64 a0_1, .int .i64 a0_2] 28 (0, 0)) from blk_below (blk_alloc (blk_new w _) _) hb); have CC := Aside0.mk (show w1.heap[w.heap.size + 1]? = some (.cells #[.int .i64 0, .int .i64 0, .int .i64 0, .int .i64 0] 45 (0, 0)) by have z := blk_below (blk_new (w.alloc _) _) hb; simpa using z); have HRA := Aside0.mk (Kd.C_below (Kd.C_alloc (Kd.C_alloc HR.out _) _) hb); clear hb; obtain ⟨⟨p0, p1, p2⟩, q0, q1, q2⟩ := cells3 BB.out; obtain ⟨p3, p4, p5, p6, q3, q4, q5⟩ := cells4 CC.out rfl; have q6 := blk_frozen CC.out 3))
    refine bodyPost_ret (results_cell_row rfl _ _ (w.heap.size + 1) 45 #[.int .i64 0, .int .i64 0, .int .i64 0, .int .i64 0] (0, 0) _ rfl (blk_put (blk_put (blk_put (blk_put CC.out 0 _ rfl) 1 _ rfl) 2 _ rfl) 3 _ rfl) Try.underlying45 rfl (by kernel_rfl)) rfl ?_
    exact ⟨rfl, (((HB1.out.setCell (by simp) _).setCell (by simp) _).setCell (by simp) _).setCell (by simp) _⟩
  · have OK := Aside0.mk h3
    have AOK := Aside0.mk h4
    simp only [Option.some.injEq, Prod.mk.injEq] at h2
    obtain ⟨rfl, rfl, rfl, rfl⟩ := h2
    clear h1 h3 h4
    go_enter Try.func25, Try.ntmps25
    go_wp2_with (first | (go_at_call 33; (with_reducible refine (impl_SetupOk.calls k a0_0 a0_1 a0_2 true _ OK.out).mono ?_); rintro e w1 ⟨rfl, hb⟩; have HB1 := Aside0.mk (below_step ((Below.refl w.heap.size w).alloc (Nat.le_refl _) _ |>.alloc (by simp) _) hb); have BB := Aside0.mk (show w1.heap[w.heap.size]? = some (.cells #[.int .i64 a0_0, .int .i64 a0_1, .int .i64 a0_2] 28 (0, 0)) from blk_below (blk_alloc (blk_new w _) _) hb); have CC := Aside0.mk (show w1.heap[w.heap.size + 1]? = some (.cells #[.int .i64 0, .int .i64 0, .int .i64 0, .int .i64 0] 45 (0, 0)) by have z := blk_below (blk_new (w.alloc _) _) hb; simpa using z); have HRA := Aside0.mk (Kd.C_below (Kd.C_alloc (Kd.C_alloc HR.out _) _) hb); clear hb; obtain ⟨⟨p0, p1, p2⟩, q0, q1, q2⟩ := cells3 BB.out; obtain ⟨p3, p4, p5, p6, q3, q4, q5⟩ := cells4 CC.out rfl; have q6 := blk_frozen CC.out 3) | (go_at_call 37; (with_reducible refine (impl_AsksOk.calls k A1 c1 l1 false _ HRA.out HC.out AOK.out).mono ?_); rintro e w2 ⟨rfl, hb⟩; have HB2 := Aside0.mk (below_step HB1.out hb); have BB2 := Aside0.mk (blk_below BB.out hb); have CC2 := Aside0.mk (blk_below CC.out hb); have HRB := Aside0.mk (Kd.C_below HRA.out hb); clear hb p0 p1 p2 q0 q1 q2 p3 p4 p5 p6 q3 q4 q5 q6; obtain ⟨⟨p0, p1, p2⟩, q0, q1, q2⟩ := cells3 BB2.out; obtain ⟨p3, p4, p5, p6, q3, q4, q5⟩ := cells4 CC2.out rfl; have q6 := blk_frozen CC2.out 3))
    refine bodyPost_ret (results_cell_row rfl _ _ (w.heap.size + 1) 45 #[.int .i64 0, .int .i64 0, .int .i64 0, .int .i64 0] (0, 0) _ rfl (blk_put (blk_put (blk_put (blk_put CC2.out 0 _ rfl) 1 _ rfl) 2 _ rfl) 3 _ rfl) Try.underlying45 rfl (by kernel_rfl)) rfl ?_
    exact ⟨rfl, (((HB2.out.setCell (by simp) _).setCell (by simp) _).setCell (by simp) _).setCell (by simp) _⟩
  · have OK := Aside0.mk h3
    have AOK := Aside0.mk h4
    have NE4 := Aside0.mk hne
    have NW := Aside0.mk h5
    obtain ⟨y1, y2, y3, y4, y5⟩ := q
    have GO := Aside0.mk h6
    obtain ⟨n, h7, h2⟩ := Option.bind_eq_some_iff.mp h2
    simp only [Option.some.injEq, Prod.mk.injEq] at h2
    obtain ⟨rfl, rfl, rfl, rfl⟩ := h2
    have KK := Aside0.mk h7
    clear h7
    clear h1 h3 h4 hne h5 h6
    go_enter Try.func25, Try.ntmps25
    go_wp2_with (first | (go_at_call 33; (with_reducible refine (impl_SetupOk.calls k a0_0 a0_1 a0_2 true _ OK.out).mono ?_); rintro e w1 ⟨rfl, hb⟩; have HB1 := Aside0.mk (below_step ((Below.refl w.heap.size w).alloc (Nat.le_refl _) _ |>.alloc (by simp) _) hb); have BB := Aside0.mk (show w1.heap[w.heap.size]? = some (.cells #[.int .i64 a0_0, .int .i64 a0_1, .int .i64 a0_2] 28 (0, 0)) from blk_below (blk_alloc (blk_new w _) _) hb); have CC := Aside0.mk (show w1.heap[w.heap.size + 1]? = some (.cells #[.int .i64 0, .int .i64 0, .int .i64 0, .int .i64 0] 45 (0, 0)) by have z := blk_below (blk_new (w.alloc _) _) hb; simpa using z); have HRA := Aside0.mk (Kd.C_below (Kd.C_alloc (Kd.C_alloc HR.out _) _) hb); clear hb; obtain ⟨⟨p0, p1, p2⟩, q0, q1, q2⟩ := cells3 BB.out; obtain ⟨p3, p4, p5, p6, q3, q4, q5⟩ := cells4 CC.out rfl; have q6 := blk_frozen CC.out 3) | (go_at_call 37; (with_reducible refine (impl_AsksOk.calls k A1 c1 l1 true _ HRA.out HC.out AOK.out).mono ?_); rintro e w2 ⟨rfl, hb⟩; have HB2 := Aside0.mk (below_step HB1.out hb); have BB2 := Aside0.mk (blk_below BB.out hb); have CC2 := Aside0.mk (blk_below CC.out hb); have HRB := Aside0.mk (Kd.C_below HRA.out hb); clear hb p0 p1 p2 q0 q1 q2 p3 p4 p5 p6 q3 q4 q5 q6; obtain ⟨⟨p0, p1, p2⟩, q0, q1, q2⟩ := cells3 BB2.out; obtain ⟨p3, p4, p5, p6, q3, q4, q5⟩ := cells4 CC2.out rfl; have q6 := blk_frozen CC2.out 3) | (go_at_call 75; (with_reducible refine (impl_asked.row k a0_0 a0_1 a0_2 A1 c1 l1 rk rc ri ok y1 y2 y3 y4 y5 _ HRB.out HC.out NE4.out NW.out GO.out).mono ?_); rintro e w3 ⟨g, v, rfl, hgg, hra, hv, hb⟩; have HB3 := Aside0.mk (below_step HB2.out hb); obtain ⟨Av, cv, rfl, hcv, hCv⟩ := Kd.R_reads hv; have HCV := Aside0.mk hcv; have HV := Aside0.mk hCv; have CC3 := Aside0.mk (blk_below CC2.out hb); clear hb hv hra hgg hcv hCv p0 p1 p2 p3 p4 p5 p6 q3 q4 q5 q6; obtain ⟨p3, p4, p5, p6, q3, q4, q5⟩ := cells4 CC3.out rfl; have q6 := blk_frozen CC3.out 3) | (go_at_call 83; (with_reducible refine (impl_hitsIn.calls k Av cv y4 n _ HV.out HCV.out KK.out).mono ?_); rintro e w4 ⟨rfl, hd⟩; obtain ⟨nd, rfl⟩ := hd))
    refine bodyPost_ret (results_cell_row rfl _ _ (w.heap.size + 1) 45 #[.int .i64 (l1.length:Int), .int .i64 n, .int .i64 (wrap64 ((l1.length:Int)-n)), .int .i64 y5] (0, 0) _ rfl (blk_put (blk_put (blk_put (blk_put (blk_drewN CC3.out nd) 0 _ rfl) 1 _ rfl) 2 _ rfl) 3 _ rfl) Try.underlying45 rfl (by kernel_rfl)) rfl ?_
    exact ⟨rfl, ((((pw_below_drewN HB3.out nd).setCell (by simp) _).setCell (by simp) _).setCell (by simp) _).setCell (by simp) _⟩
def impl_CountOf.fT (k : Nat) (a0_0 a0_1 a0_2 : Int) (l1 : List ByteArray) : Option (Int × Int × Int × Int) :=
  (askSetT k a0_0 a0_1 a0_2 l1).bind fun o => match o with | none => some (0, 0, 0, 0) | some q => (impl_hitsIn.f k q.2.2.2.2.2.1).bind fun n => some ((l1.length : Int), n, wrap64 ((l1.length : Int) - n), q.2.2.2.2.2.2)
theorem impl_CountOf.monoT : ∀ a0 a1 a2 a3 k, LeO (impl_CountOf.fT k a0 a1 a2 a3) (impl_CountOf.fT (k + 1) a0 a1 a2 a3) := by
  intro a0 a1 a2 a3 k
  unfold impl_CountOf.fT
  refine LeO.bind (askSetT.mono _ _ _ _ _) (fun o => ?_)
  cases o with
  | none => exact LeO.refl _
  | some q => exact LeO.bind (impl_hitsIn.mono _ _) (fun _ => LeO.refl _)
set_option maxHeartbeats 8000000 in
set_option maxRecDepth 100000 in
theorem impl_CountOf.callsT (k : Nat) (a0_0 a0_1 a0_2 : Int) (A1 : Option Addr) (c1 : Nat) (l1 : List ByteArray) (r1 r2 r3 r4 : Int) (w : World) (hr1 : Kd.C Kd.string w A1 l1.length l1) (hc1 : l1.length ≤ c1) (hk4 : a0_0 = 4) (h : impl_CountOf.fT k a0_0 a0_1 a0_2 l1 = some (r1, r2, r3, r4)) :
    Calls Try.prog 25 #[.agg #[.int .i64 a0_0, .int .i64 a0_1, .int .i64 a0_2], .slice A1 l1.length c1] w fun e w' => e = .returned (.agg #[.int .i64 r1, .int .i64 r2, .int .i64 r3, .int .i64 r4]) ∧ Below w.heap.size w w' := by
  have NE4 := Aside0.mk hk4
  clear hk4
  have HR := Aside0.mk hr1
  have HC := Aside0.mk hc1
  obtain ⟨o, h1, h2⟩ := Option.bind_eq_some_iff.mp h
  clear hr1 hc1 h
  rcases askSetT.ways h1 with ⟨h3, rfl⟩ | ⟨h3, h4, rfl⟩ | ⟨h3, h4, t1, t2, t3, t4, t5, ok, q, h5, h6, rfl⟩
  · have OK := Aside0.mk h3
    simp only [Option.some.injEq, Prod.mk.injEq] at h2
    obtain ⟨rfl, rfl, rfl, rfl⟩ := h2
    clear h1 h3
    go_enter Try.func25, Try.ntmps25
    go_wp2_with (first | (go_at_call 33; (with_reducible refine (impl_SetupOk.calls k a0_0 a0_1 a0_2 false _ OK.out).mono ?_); rintro e w1 ⟨rfl, hb⟩; have HB1 := Aside0.mk (below_step ((Below.refl w.heap.size w).alloc (Nat.le_refl _) _ |>.alloc (by simp) _) hb); have BB := Aside0.mk (show w1.heap[w.heap.size]? = some (.cells #[.int .i64 a0_0, .int .i64 a0_1, .int .i64 a0_2] 28 (0, 0)) from blk_below (blk_alloc (blk_new w _) _) hb); have CC := Aside0.mk (show w1.heap[w.heap.size + 1]? = some (.cells #[.int .i64 0, .int .i64 0, .int .i64 0, .int .i64 0] 45 (0, 0)) by have z := blk_below (blk_new (w.alloc _) _) hb; simpa using z); have HRA := Aside0.mk (Kd.C_below (Kd.C_alloc (Kd.C_alloc HR.out _) _) hb); clear hb; obtain ⟨⟨p0, p1, p2⟩, q0, q1, q2⟩ := cells3 BB.out; obtain ⟨p3, p4, p5, p6, q3, q4, q5⟩ := cells4 CC.out rfl; have q6 := blk_frozen CC.out 3))
    refine bodyPost_ret (results_cell_row rfl _ _ (w.heap.size + 1) 45 #[.int .i64 0, .int .i64 0, .int .i64 0, .int .i64 0] (0, 0) _ rfl (blk_put (blk_put (blk_put (blk_put CC.out 0 _ rfl) 1 _ rfl) 2 _ rfl) 3 _ rfl) Try.underlying45 rfl (by kernel_rfl)) rfl ?_
    exact ⟨rfl, (((HB1.out.setCell (by simp) _).setCell (by simp) _).setCell (by simp) _).setCell (by simp) _⟩
  · have OK := Aside0.mk h3
    have AOK := Aside0.mk h4
    simp only [Option.some.injEq, Prod.mk.injEq] at h2
    obtain ⟨rfl, rfl, rfl, rfl⟩ := h2
    clear h1 h3 h4
    go_enter Try.func25, Try.ntmps25
    go_wp2_with (first | (go_at_call 33; (with_reducible refine (impl_SetupOk.calls k a0_0 a0_1 a0_2 true _ OK.out).mono ?_); rintro e w1 ⟨rfl, hb⟩; have HB1 := Aside0.mk (below_step ((Below.refl w.heap.size w).alloc (Nat.le_refl _) _ |>.alloc (by simp) _) hb); have BB := Aside0.mk (show w1.heap[w.heap.size]? = some (.cells #[.int .i64 a0_0, .int .i64 a0_1, .int .i64 a0_2] 28 (0, 0)) from blk_below (blk_alloc (blk_new w _) _) hb); have CC := Aside0.mk (show w1.heap[w.heap.size + 1]? = some (.cells #[.int .i64 0, .int .i64 0, .int .i64 0, .int .i64 0] 45 (0, 0)) by have z := blk_below (blk_new (w.alloc _) _) hb; simpa using z); have HRA := Aside0.mk (Kd.C_below (Kd.C_alloc (Kd.C_alloc HR.out _) _) hb); clear hb; obtain ⟨⟨p0, p1, p2⟩, q0, q1, q2⟩ := cells3 BB.out; obtain ⟨p3, p4, p5, p6, q3, q4, q5⟩ := cells4 CC.out rfl; have q6 := blk_frozen CC.out 3) | (go_at_call 37; (with_reducible refine (impl_AsksOk.calls k A1 c1 l1 false _ HRA.out HC.out AOK.out).mono ?_); rintro e w2 ⟨rfl, hb⟩; have HB2 := Aside0.mk (below_step HB1.out hb); have BB2 := Aside0.mk (blk_below BB.out hb); have CC2 := Aside0.mk (blk_below CC.out hb); have HRB := Aside0.mk (Kd.C_below HRA.out hb); clear hb p0 p1 p2 q0 q1 q2 p3 p4 p5 p6 q3 q4 q5 q6; obtain ⟨⟨p0, p1, p2⟩, q0, q1, q2⟩ := cells3 BB2.out; obtain ⟨p3, p4, p5, p6, q3, q4, q5⟩ := cells4 CC2.out rfl; have q6 := blk_frozen CC2.out 3))
    refine bodyPost_ret (results_cell_row rfl _ _ (w.heap.size + 1) 45 #[.int .i64 0, .int .i64 0, .int .i64 0, .int .i64 0] (0, 0) _ rfl (blk_put (blk_put (blk_put (blk_put CC2.out 0 _ rfl) 1 _ rfl) 2 _ rfl) 3 _ rfl) Try.underlying45 rfl (by kernel_rfl)) rfl ?_
    exact ⟨rfl, (((HB2.out.setCell (by simp) _).setCell (by simp) _).setCell (by simp) _).setCell (by simp) _⟩
  · have OK := Aside0.mk h3
    have AOK := Aside0.mk h4
    have NW := Aside0.mk h5
    obtain ⟨y1, y2, y3, y4, y5, y6, y7⟩ := q
    have GO := Aside0.mk h6
    obtain ⟨n, h7, h2⟩ := Option.bind_eq_some_iff.mp h2
    simp only [Option.some.injEq, Prod.mk.injEq] at h2
    obtain ⟨rfl, rfl, rfl, rfl⟩ := h2
    have KK := Aside0.mk h7
    clear h7
    clear h1 h3 h4 h5 h6
    go_enter Try.func25, Try.ntmps25
    go_wp2_with (first | (go_at_call 33; (with_reducible refine (impl_SetupOk.calls k a0_0 a0_1 a0_2 true _ OK.out).mono ?_); rintro e w1 ⟨rfl, hb⟩; have HB1 := Aside0.mk (below_step ((Below.refl w.heap.size w).alloc (Nat.le_refl _) _ |>.alloc (by simp) _) hb); have BB := Aside0.mk (show w1.heap[w.heap.size]? = some (.cells #[.int .i64 a0_0, .int .i64 a0_1, .int .i64 a0_2] 28 (0, 0)) from blk_below (blk_alloc (blk_new w _) _) hb); have CC := Aside0.mk (show w1.heap[w.heap.size + 1]? = some (.cells #[.int .i64 0, .int .i64 0, .int .i64 0, .int .i64 0] 45 (0, 0)) by have z := blk_below (blk_new (w.alloc _) _) hb; simpa using z); have HRA := Aside0.mk (Kd.C_below (Kd.C_alloc (Kd.C_alloc HR.out _) _) hb); clear hb; obtain ⟨⟨p0, p1, p2⟩, q0, q1, q2⟩ := cells3 BB.out; obtain ⟨p3, p4, p5, p6, q3, q4, q5⟩ := cells4 CC.out rfl; have q6 := blk_frozen CC.out 3) | (go_at_call 37; (with_reducible refine (impl_AsksOk.calls k A1 c1 l1 true _ HRA.out HC.out AOK.out).mono ?_); rintro e w2 ⟨rfl, hb⟩; have HB2 := Aside0.mk (below_step HB1.out hb); have BB2 := Aside0.mk (blk_below BB.out hb); have CC2 := Aside0.mk (blk_below CC.out hb); have HRB := Aside0.mk (Kd.C_below HRA.out hb); clear hb p0 p1 p2 q0 q1 q2 p3 p4 p5 p6 q3 q4 q5 q6; obtain ⟨⟨p0, p1, p2⟩, q0, q1, q2⟩ := cells3 BB2.out; obtain ⟨p3, p4, p5, p6, q3, q4, q5⟩ := cells4 CC2.out rfl; have q6 := blk_frozen CC2.out 3) | (go_at_call 75; (with_reducible refine (impl_asked.three k a0_0 a0_1 a0_2 A1 c1 l1 t1 t2 t3 t4 t5 ok y1 y2 y3 y4 y5 y6 y7 _ HRB.out HC.out NE4.out NW.out GO.out).mono ?_); rintro e w3 ⟨g, v, rfl, hgg, hra, hv, hb⟩; have HB3 := Aside0.mk (below_step HB2.out hb); obtain ⟨Av, cv, rfl, hcv, hCv⟩ := Kd.R_reads hv; have HCV := Aside0.mk hcv; have HV := Aside0.mk hCv; have CC3 := Aside0.mk (blk_below CC2.out hb); clear hb hv hra hgg hcv hCv p0 p1 p2 p3 p4 p5 p6 q3 q4 q5 q6; obtain ⟨p3, p4, p5, p6, q3, q4, q5⟩ := cells4 CC3.out rfl; have q6 := blk_frozen CC3.out 3) | (go_at_call 83; (with_reducible refine (impl_hitsIn.calls k Av cv y6 n _ HV.out HCV.out KK.out).mono ?_); rintro e w4 ⟨rfl, hd⟩; obtain ⟨nd, rfl⟩ := hd))
    refine bodyPost_ret (results_cell_row rfl _ _ (w.heap.size + 1) 45 #[.int .i64 (l1.length:Int), .int .i64 n, .int .i64 (wrap64 ((l1.length:Int)-n)), .int .i64 y7] (0, 0) _ rfl (blk_put (blk_put (blk_put (blk_put (blk_drewN CC3.out nd) 0 _ rfl) 1 _ rfl) 2 _ rfl) 3 _ rfl) Try.underlying45 rfl (by kernel_rfl)) rfl ?_
    exact ⟨rfl, ((((pw_below_drewN HB3.out nd).setCell (by simp) _).setCell (by simp) _).setCell (by simp) _).setCell (by simp) _⟩
def impl_CountOf.f (k : Nat) (a0_0 a0_1 a0_2 : Int) (l1 : List ByteArray) : Option (Int × Int × Int × Int) := if a0_0 = 4 then impl_CountOf.fT k a0_0 a0_1 a0_2 l1 else impl_CountOf.fR k a0_0 a0_1 a0_2 l1
theorem impl_CountOf.mono : ∀ a0 a1 a2 a3 k, LeO (impl_CountOf.f k a0 a1 a2 a3) (impl_CountOf.f (k + 1) a0 a1 a2 a3) := by
  intro a0 a1 a2 a3 k
  unfold impl_CountOf.f
  exact LeO.ite (impl_CountOf.monoT _ _ _ _ _) (impl_CountOf.monoR _ _ _ _ _)
theorem impl_CountOf.calls (k : Nat) (a0_0 a0_1 a0_2 : Int) (A1 : Option Addr) (c1 : Nat) (l1 : List ByteArray) (r1 r2 r3 r4 : Int) (w : World) (hr1 : Kd.C Kd.string w A1 l1.length l1) (hc1 : l1.length ≤ c1) (h : impl_CountOf.f k a0_0 a0_1 a0_2 l1 = some (r1, r2, r3, r4)) :
    Calls Try.prog 25 #[.agg #[.int .i64 a0_0, .int .i64 a0_1, .int .i64 a0_2], .slice A1 l1.length c1] w fun e w' => e = .returned (.agg #[.int .i64 r1, .int .i64 r2, .int .i64 r3, .int .i64 r4]) ∧ Below w.heap.size w w' := by
  unfold impl_CountOf.f at h
  by_cases c : a0_0 = 4
  · rw [if_pos c] at h
    exact impl_CountOf.callsT k a0_0 a0_1 a0_2 A1 c1 l1 r1 r2 r3 r4 w hr1 hc1 c h
  · rw [if_neg c] at h
    exact impl_CountOf.callsR k a0_0 a0_1 a0_2 A1 c1 l1 r1 r2 r3 r4 w hr1 hc1 c h
def impl_NextAsk.l0 : Nat → List ByteArray → ByteArray → Int → Option (Int)
  | 0, _, _, _ => none
  | k + 1, x0, x1, x7 => if x7 < (x0.length : Int) then (if 0 ≤ x7 then (if (rdOf ByteArray.empty x0 x7).toList = x1.toList then (some x7) else (impl_NextAsk.l0 k x0 x1 (wrap64 (x7 + 1)))) else (none)) else (some (x0.length : Int))
def impl_NextAsk.f (k : Nat) (l0 : List ByteArray) (a1 : ByteArray) (a2 : Int) : Option (Int) := impl_NextAsk.l0 k l0 a1 (mx 0 a2)
theorem impl_NextAsk.mono_l : ∀ k, (∀ y0 y1 y2, LeO (impl_NextAsk.l0 k y0 y1 y2) (impl_NextAsk.l0 (k + 1) y0 y1 y2))
  | 0 => fun _ _ _ r h => by simp [impl_NextAsk.l0] at h
  | k + 1 => by
    have ih0 := impl_NextAsk.mono_l k
    · intro y0 y1 y2
      unfold impl_NextAsk.l0
      repeat' first
      | (with_reducible exact ih0 _ _ _)
      | (with_reducible exact LeO.refl _)
      | (with_reducible exact LeO.none _)
      | (with_reducible refine LeO.ite ?_ ?_)
      | (with_reducible refine LeO.bind ?_ (fun _ => ?_))
      | exact ih0 _ _ _
      | exact LeO.none _
      | refine LeO.ite ?_ ?_
      | refine LeO.bind ?_ (fun _ => ?_)
theorem impl_NextAsk.mono : ∀ a0 a1 a2 k, LeO (impl_NextAsk.f k a0 a1 a2) (impl_NextAsk.f (k + 1) a0 a1 a2) := by
  intro a0 a1 a2 k
  have ih0 := impl_NextAsk.mono_l k
  unfold impl_NextAsk.f
  repeat' first
      | (with_reducible exact ih0 _ _ _)
      | (with_reducible exact LeO.refl _)
      | (with_reducible exact LeO.none _)
      | (with_reducible refine LeO.ite ?_ ?_)
      | (with_reducible refine LeO.bind ?_ (fun _ => ?_))
      | exact ih0 _ _ _
      | exact LeO.none _
      | refine LeO.ite ?_ ?_
      | refine LeO.bind ?_ (fun _ => ?_)
set_option maxHeartbeats 8000000 in
set_option maxRecDepth 100000 in
theorem impl_NextAsk.calls (k : Nat) (A0 : Option Addr) (c0 : Nat) (l0 : List ByteArray) (a1 : ByteArray) (a2 : Int) (r : Int) (w : World) (hr0 : Kd.C Kd.string w A0 l0.length l0) (hc0 : l0.length ≤ c0) (h : impl_NextAsk.f k l0 a1 a2 = some r) :
    Calls Try.prog 185 #[.slice A0 l0.length c0, .string a1, .int .i64 a2] w fun e w' => e = .returned (.int .i64 r) ∧ Below w.heap.size w w' := by
  have HR0 := Aside0.mk hr0
  have HC0 := Aside0.mk hc0
  clear hr0 hc0
  have HB := Aside0.mk (Below.refl w.heap.size w)
  have H : (impl_NextAsk.l0 k l0 a1 (mx 0 a2)) = some r := h
  clear h
  obtain ⟨ji4, hji4⟩ : ∃ j_ : Int, (mx 0 a2) = j_ := ⟨_, rfl⟩
  replace H : (impl_NextAsk.l0 k l0 a1 ji4) = some r := by first | (rw [hji4] at H; exact H) | (simp only [hji4] at H ⊢; exact H)
  (try (have hji4l : 0 ≤ ji4 := by (rw [← hji4]; unfold mx; (repeat' split) <;> omega)))
  (try (have hji4m : 0 ≤ ji4 := by omega))
  have hji4_ : (if 0 < a2 then a2 else 0) = ji4 := hji4
  have H' := Aside0.mk H
  clear H
  go_enter Try.func185, Try.ntmps185
  go_wp2
  go_loopg [7] k (fun kq v7 w' => ∃ (x7_1 : Int), v7 = .int .i64 x7_1 ∧ Aside0 (impl_NextAsk.l0 kq l0 a1 x7_1 = some r) ∧ Aside0 (kq ≤ k) ∧ Aside0 (Below w.heap.size w w'))
  case atStart => exact ⟨(ji4), (by first | rfl | (simp; done) | (simp only [← hji4] <;> (first | rfl | simp)) | (simp [*]; done)), H', ⟨Nat.le_refl _⟩, ⟨by repeat (first | (with_reducible first | exact HB.out | apply below_alloc | apply pw_below_drewN | apply below_drew1) | exact HB.out)⟩⟩
  case round =>
    clear H'
    try clear c1
    try clear p2
    obtain ⟨x7_1, rfl, HA, HK1, HB⟩ := hrel
    cases gk with
    | zero => exact absurd HA.out (by simp [impl_NextAsk.l0])
    | succ k1 =>
      have H := HA.out
      clear HA
      simp only [impl_NextAsk.l0] at H
      by_cases c5 : x7_1 < (l0.length : Int)
      · rw [if_pos c5] at H
        have c5b0 : decide (x7_1 < (l0.length : Int)) = true := decide_eq_true c5
        clear c5
        by_cases c6 : 0 ≤ x7_1
        · rw [if_pos c6] at H
          have c6b0 : decide (0 ≤ x7_1) = true := decide_eq_true c6
          clear c6
          by_cases c7 : (rdOf ByteArray.empty l0 x7_1).toList = a1.toList
          · rw [if_pos c7] at H
            have c7b0 : ((rdOf ByteArray.empty l0 x7_1).toList == a1.toList) = true := beq_iff_eq.mpr c7
            have c7b1 : ((rdOf ByteArray.empty l0 x7_1).toList != a1.toList) = false := bne_eq_false_iff_eq.mpr c7
            clear c7
            obtain rfl := Option.some.inj H
            have p321 : 0 ≤ (x7_1 : Int) := of_decide_eq_true (by first | (with_reducible assumption) | assumption)
            have q321 : x7_1 < (l0.length : Int) := of_decide_eq_true (by first | (with_reducible assumption) | assumption)
            obtain ⟨ad321, e321, hx321_0⟩ := Kd.at_string HR0.out x7_1 p321 q321
            cases e321
            replace hx321_0 := (HB.out.cell (World.block_lt_of_cell? w _ hx321_0)).trans hx321_0
            replace p321 := eq_true p321
            replace q321 := eq_true q321
            go_wp2
            go_ret
            exact ⟨by first | rfl | (simp [errW_none, errW_some] <;> rfl) | (simp only [← hji4]; first | rfl | (simp [errW_none, errW_some] <;> rfl)) | (simp [*, errW_none, errW_some] <;> rfl), by repeat (first | (with_reducible first | exact HB.out | apply below_alloc | apply pw_below_drewN | apply below_drew1) | exact HB.out)⟩
          · rw [if_neg c7] at H
            have c7b0 : ((rdOf ByteArray.empty l0 x7_1).toList == a1.toList) = false := beq_eq_false_iff_ne.mpr c7
            have c7b1 : ((rdOf ByteArray.empty l0 x7_1).toList != a1.toList) = true := bne_iff_ne.mpr c7
            have H' := Aside0.mk H
            clear H
            have p321 : 0 ≤ (x7_1 : Int) := of_decide_eq_true (by first | (with_reducible assumption) | assumption)
            have q321 : x7_1 < (l0.length : Int) := of_decide_eq_true (by first | (with_reducible assumption) | assumption)
            obtain ⟨ad321, e321, hx321_0⟩ := Kd.at_string HR0.out x7_1 p321 q321
            cases e321
            replace hx321_0 := (HB.out.cell (World.block_lt_of_cell? w _ hx321_0)).trans hx321_0
            replace p321 := eq_true p321
            replace q321 := eq_true q321
            go_wp2
            go_roundg k1
            case measure => have := HK1.out; omega
            case rel => exact ⟨(wrap64 (x7_1 + 1)), (by first | rfl | (simp; done) | (simp [*]; done)), H', ⟨by have := HK1.out; omega⟩, ⟨by repeat (first | (with_reducible first | exact HB.out | apply below_alloc | apply pw_below_drewN | apply below_drew1) | exact HB.out)⟩⟩
        · rw [if_neg c6] at H
          exact absurd H (by simp)
      · rw [if_neg c5] at H
        have c5b0 : decide (x7_1 < (l0.length : Int)) = false := decide_eq_false c5
        clear c5
        obtain rfl := Option.some.inj H
        go_wp2
        go_ret
        exact ⟨by first | rfl | (simp [errW_none, errW_some] <;> rfl) | (simp only [← hji4]; first | rfl | (simp [errW_none, errW_some] <;> rfl)) | (simp [*, errW_none, errW_some] <;> rfl), by repeat (first | (with_reducible first | exact HB.out | apply below_alloc | apply pw_below_drewN | apply below_drew1) | exact HB.out)⟩
def impl_BestGo.l0 : Nat → List ByteArray → Int → Int → Int → List ByteArray → Int → Int → Option (Int)
  | 0, _, _, _, _, _, _, _ => none
  | k + 1, x0, x2, x7, x8, x12, x13, x14 => if x14 < x13 then (if 0 ≤ x14 then (if x14 < (x12.length : Int) then ((impl_NextAsk.f k x0 (rdOf ByteArray.empty x12 x14) x2).bind fun t323 => (if t323 > x8 then (impl_BestGo.l0 k x0 x2 x14 t323 x12 x13 (wrap64 (x14 + 1))) else (impl_BestGo.l0 k x0 x2 x7 x8 x12 x13 (wrap64 (x14 + 1))))) else (none)) else (none)) else (some x7)
def impl_BestGo.f (k : Nat) (l0 : List ByteArray) (l1 : List ByteArray) (a2 : Int) : Option (Int) := impl_BestGo.l0 k l0 a2 (-1) (-1) l1 (l1.length : Int) 0
theorem impl_BestGo.mono_l : ∀ k, (∀ y0 y1 y2 y3 y4 y5 y6, LeO (impl_BestGo.l0 k y0 y1 y2 y3 y4 y5 y6) (impl_BestGo.l0 (k + 1) y0 y1 y2 y3 y4 y5 y6))
  | 0 => fun _ _ _ _ _ _ _ r h => by simp [impl_BestGo.l0] at h
  | k + 1 => by
    have ih0 := impl_BestGo.mono_l k
    · intro y0 y1 y2 y3 y4 y5 y6
      unfold impl_BestGo.l0
      repeat' first
      | (with_reducible exact ih0 _ _ _ _ _ _ _)
      | (with_reducible exact impl_NextAsk.mono _ _ _ _)
      | (with_reducible exact LeO.refl _)
      | (with_reducible exact LeO.none _)
      | (with_reducible refine LeO.ite ?_ ?_)
      | (with_reducible refine LeO.bind ?_ (fun _ => ?_))
      | exact ih0 _ _ _ _ _ _ _
      | exact impl_NextAsk.mono _ _ _ _
      | exact LeO.none _
      | refine LeO.ite ?_ ?_
      | refine LeO.bind ?_ (fun _ => ?_)
theorem impl_BestGo.mono : ∀ a0 a1 a2 k, LeO (impl_BestGo.f k a0 a1 a2) (impl_BestGo.f (k + 1) a0 a1 a2) := by
  intro a0 a1 a2 k
  have ih0 := impl_BestGo.mono_l k
  unfold impl_BestGo.f
  repeat' first
      | (with_reducible exact ih0 _ _ _ _ _ _ _)
      | (with_reducible exact impl_NextAsk.mono _ _ _ _)
      | (with_reducible exact LeO.refl _)
      | (with_reducible exact LeO.none _)
      | (with_reducible refine LeO.ite ?_ ?_)
      | (with_reducible refine LeO.bind ?_ (fun _ => ?_))
      | exact ih0 _ _ _ _ _ _ _
      | exact impl_NextAsk.mono _ _ _ _
      | exact LeO.none _
      | refine LeO.ite ?_ ?_
      | refine LeO.bind ?_ (fun _ => ?_)
set_option maxHeartbeats 8000000 in
set_option maxRecDepth 100000 in
theorem impl_BestGo.calls (k : Nat) (A0 : Option Addr) (c0 : Nat) (l0 : List ByteArray) (A1 : Option Addr) (c1 : Nat) (l1 : List ByteArray) (a2 : Int) (r : Int) (w : World) (hr0 : Kd.C Kd.string w A0 l0.length l0) (hc0 : l0.length ≤ c0) (hr1 : Kd.C Kd.string w A1 l1.length l1) (hc1 : l1.length ≤ c1) (h : impl_BestGo.f k l0 l1 a2 = some r) :
    Calls Try.prog 142 #[.slice A0 l0.length c0, .slice A1 l1.length c1, .int .i64 a2] w fun e w' => e = .returned (.int .i64 r) ∧ Below w.heap.size w w' := by
  have HR0 := Aside0.mk hr0
  have HC0 := Aside0.mk hc0
  clear hr0 hc0
  have HR1 := Aside0.mk hr1
  have HC1 := Aside0.mk hc1
  clear hr1 hc1
  have HB := Aside0.mk (Below.refl w.heap.size w)
  have H : (impl_BestGo.l0 k l0 a2 (-1) (-1) l1 (l1.length : Int) 0) = some r := h
  clear h
  have H' := Aside0.mk H
  clear H
  go_enter Try.func142, Try.ntmps142
  go_wp2
  go_loopg [7, 8, 14] k (fun kq v7 v8 v14 w' => ∃ (x7_1 : Int) (x8_1 : Int) (x14_1 : Int), v7 = .int .i64 x7_1 ∧ v8 = .int .i64 x8_1 ∧ v14 = .int .i64 x14_1 ∧ Aside0 (impl_BestGo.l0 kq l0 a2 x7_1 x8_1 l1 (l1.length : Int) x14_1 = some r) ∧ Aside0 (kq ≤ k) ∧ Aside0 (Below w.heap.size w w'))
  case atStart => exact ⟨((-1)), ((-1)), (0), (by first | rfl | (simp; done) | (simp [*]; done)), (by first | rfl | (simp; done) | (simp [*]; done)), (by first | rfl | (simp; done) | (simp [*]; done)), H', ⟨Nat.le_refl _⟩, ⟨by repeat (first | (with_reducible first | exact HB.out | apply below_alloc | apply pw_below_drewN | apply below_drew1) | exact HB.out)⟩⟩
  case round =>
    clear H'
    try clear c1
    try clear p2
    obtain ⟨x7_1, x8_1, x14_1, rfl, rfl, rfl, HA, HK1, HB⟩ := hrel
    cases gk with
    | zero => exact absurd HA.out (by simp [impl_BestGo.l0])
    | succ k1 =>
      have H := HA.out
      clear HA
      simp only [impl_BestGo.l0] at H
      by_cases c4 : x14_1 < (l1.length : Int)
      · rw [if_pos c4] at H
        have c4b0 : decide (x14_1 < (l1.length : Int)) = true := decide_eq_true c4
        clear c4
        by_cases c5 : 0 ≤ x14_1
        · rw [if_pos c5] at H
          have c5b0 : decide (0 ≤ x14_1) = true := decide_eq_true c5
          clear c5
          by_cases c6 : x14_1 < (l1.length : Int)
          · rw [if_pos c6] at H
            have c6b0 : decide (x14_1 < (l1.length : Int)) = true := decide_eq_true c6
            clear c6
            replace H := Option.bind_eq_some_iff.mp H
            obtain ⟨t323, A70, H⟩ := H
            replace H : (if t323 > x8_1 then (impl_BestGo.l0 k1 l0 a2 x14_1 t323 l1 (l1.length : Int) (wrap64 (x14_1 + 1))) else (impl_BestGo.l0 k1 l0 a2 x7_1 x8_1 l1 (l1.length : Int) (wrap64 (x14_1 + 1)))) = some r := H
            have A7 := Aside0.mk A70
            clear A70
            by_cases c8 : t323 > x8_1
            · rw [if_pos c8] at H
              have c8b0 : decide (x8_1 < t323) = true := decide_eq_true c8
              clear c8
              have H' := Aside0.mk H
              clear H
              have p322 : 0 ≤ (x14_1 : Int) := of_decide_eq_true (by first | (with_reducible assumption) | assumption)
              have q322 : x14_1 < (l1.length : Int) := of_decide_eq_true (by first | (with_reducible assumption) | assumption)
              obtain ⟨ad322, e322, hx322_0⟩ := Kd.at_string HR1.out x14_1 p322 q322
              cases e322
              replace hx322_0 := (HB.out.cell (World.block_lt_of_cell? w _ hx322_0)).trans hx322_0
              replace p322 := eq_true p322
              replace q322 := eq_true q322
              go_wp2_with (first | ((with_reducible refine gate_callee (f := 185) rfl ?_); refine goesL_ (some 22) rfl rfl Try.func185 (by kernel_rfl) rfl #[.slice A0 l0.length c0, .string (rdOf ByteArray.empty l1 x14_1), .int .i64 a2] rfl (by (try simp only [List.map_toArray, List.map_cons, List.map_nil]); first | done | rfl | (simp only [List.length_drop, List.length_take]; rfl)) ?_; (with_reducible refine (impl_NextAsk.calls k1 _ _ l0 (rdOf ByteArray.empty l1 x14_1) a2 t323 _ ?side1 ?side2 A7.out).mono ?_); (case side1 => repeat (first | exact (Kd.C_below HR0.out HB.out) | (with_reducible refine Kd.C_alloc ?_ _) | (with_reducible refine Kd.C_drewN ?_ _) | (with_reducible refine Kd.C_drew ?_))); (case side2 => exact HC0.out); rintro e w9 ⟨rfl, hb⟩; refine ⟨_, rfl, ?_⟩; have n0_ := Aside0.mk (below_step (by repeat (first | (with_reducible first | exact HB.out | apply below_alloc | apply pw_below_drewN | apply below_drew1) | exact HB.out)) hb); clear HB; have HB := n0_; clear n0_; (try clear hb); (try clear hb2); (try clear hk); (try clear hi)))
              go_roundg k1
              case measure => have := HK1.out; omega
              case rel => exact ⟨(x14_1), (t323), (wrap64 (x14_1 + 1)), (by first | rfl | (simp; done) | (simp [*]; done)), (by first | rfl | (simp; done) | (simp [*]; done)), (by first | rfl | (simp; done) | (simp [*]; done)), H', ⟨by have := HK1.out; omega⟩, ⟨by repeat (first | (with_reducible first | exact HB.out | apply below_alloc | apply pw_below_drewN | apply below_drew1) | exact HB.out)⟩⟩
            · rw [if_neg c8] at H
              have c8b0 : decide (x8_1 < t323) = false := decide_eq_false c8
              clear c8
              have H' := Aside0.mk H
              clear H
              have p322 : 0 ≤ (x14_1 : Int) := of_decide_eq_true (by first | (with_reducible assumption) | assumption)
              have q322 : x14_1 < (l1.length : Int) := of_decide_eq_true (by first | (with_reducible assumption) | assumption)
              obtain ⟨ad322, e322, hx322_0⟩ := Kd.at_string HR1.out x14_1 p322 q322
              cases e322
              replace hx322_0 := (HB.out.cell (World.block_lt_of_cell? w _ hx322_0)).trans hx322_0
              replace p322 := eq_true p322
              replace q322 := eq_true q322
              go_wp2_with (first | ((with_reducible refine gate_callee (f := 185) rfl ?_); refine goesL_ (some 22) rfl rfl Try.func185 (by kernel_rfl) rfl #[.slice A0 l0.length c0, .string (rdOf ByteArray.empty l1 x14_1), .int .i64 a2] rfl (by (try simp only [List.map_toArray, List.map_cons, List.map_nil]); first | done | rfl | (simp only [List.length_drop, List.length_take]; rfl)) ?_; (with_reducible refine (impl_NextAsk.calls k1 _ _ l0 (rdOf ByteArray.empty l1 x14_1) a2 t323 _ ?side1 ?side2 A7.out).mono ?_); (case side1 => repeat (first | exact (Kd.C_below HR0.out HB.out) | (with_reducible refine Kd.C_alloc ?_ _) | (with_reducible refine Kd.C_drewN ?_ _) | (with_reducible refine Kd.C_drew ?_))); (case side2 => exact HC0.out); rintro e w10 ⟨rfl, hb⟩; refine ⟨_, rfl, ?_⟩; have n0_ := Aside0.mk (below_step (by repeat (first | (with_reducible first | exact HB.out | apply below_alloc | apply pw_below_drewN | apply below_drew1) | exact HB.out)) hb); clear HB; have HB := n0_; clear n0_; (try clear hb); (try clear hb2); (try clear hk); (try clear hi)))
              go_roundg k1
              case measure => have := HK1.out; omega
              case rel => exact ⟨(x7_1), (x8_1), (wrap64 (x14_1 + 1)), (by first | rfl | (simp; done) | (simp [*]; done)), (by first | rfl | (simp; done) | (simp [*]; done)), (by first | rfl | (simp; done) | (simp [*]; done)), H', ⟨by have := HK1.out; omega⟩, ⟨by repeat (first | (with_reducible first | exact HB.out | apply below_alloc | apply pw_below_drewN | apply below_drew1) | exact HB.out)⟩⟩
          · rw [if_neg c6] at H
            exact absurd H (by simp)
        · rw [if_neg c5] at H
          exact absurd H (by simp)
      · rw [if_neg c4] at H
        have c4b0 : decide (x14_1 < (l1.length : Int)) = false := decide_eq_false c4
        clear c4
        obtain rfl := Option.some.inj H
        go_wp2
        go_ret
        exact ⟨by first | rfl | (simp [errW_none, errW_some] <;> rfl) | (simp [*, errW_none, errW_some] <;> rfl), by repeat (first | (with_reducible first | exact HB.out | apply below_alloc | apply pw_below_drewN | apply below_drew1) | exact HB.out)⟩
def slices_Delete_string_string.f (l0 : List ByteArray) (a1 a2 : Int) : Option (List ByteArray) := if 0 ≤ a1 ∧ a1 < (l0.length : Int) ∧ a2 = a1 + 1 then some (l0.eraseIdx a1.toNat) else none
theorem R_spareS {w : World} {base m g c off : Nat} {xs : List ByteArray} {ok : Nat → Prop} (vs : List Value) (h : Kd.R Kd.string 9 w base ok (.slice (some ⟨g, 0, none⟩) m c) xs) (ho : m * 1 ≤ off) (hfit : off + vs.length ≤ c * 1) :
    Kd.R Kd.string 9 (w.setCells g off vs) base ok (.slice (some ⟨g, 0, none⟩) m c) xs := by
  have hm := (Kd.R_reads' h).1
  obtain ⟨h0, inner, hown, hr⟩ := h
  rcases hown.2 with ⟨hv, _⟩ | ⟨g', cap', cur, hv, hb, hh, hcap, hcm, hcs, htake⟩
  · cases hv
  · injection hv with ha hlen hc
    injection ha with ha
    injection ha with hg
    subst hg; subst hc
    obtain ⟨cur', h3, h4, h5⟩ := setCells_row vs off w cur hh (by rw [hcs]; exact hfit)
    refine ⟨h0, inner, ⟨hown.1, .inr ⟨g, c, cur', by rw [hlen], hb, h3, hcap, hcm, by rw [h4, hcs], ?_⟩⟩, hr.imp_ (fun p q hp => Kd.string.M_move (fun k' hk' => setCells_far vs off k' (fun he => hk'.2 (by simp [Value.ownBlock, he]))) hp)⟩
    rw [h5]
    have hk : Kd.string.sz = 1 := rfl
    rw [hk] at htake ⊢
    have hl : cur.toList.length = c * 1 := by rw [Array.length_toList, hcs, hk]
    rw [List.append_assoc, List.take_append_of_le_length (by rw [List.length_take, hl, Nat.le_min]; omega), List.take_take, Nat.min_eq_left (by omega), htake]
theorem own_cellsS {w : World} {base m g c : Nat} {xs : List ByteArray} {ok : Nat → Prop} (h : Kd.R Kd.string 9 w base ok (.slice (some ⟨g, 0, none⟩) m c) xs) : ∃ cur, w.heap[g]? = some (.cells cur 9 (0, 0)) ∧ cur.size = c * 1 := by
  obtain ⟨_, inner, hown, _⟩ := h
  rcases hown.2 with ⟨hv, _⟩ | ⟨g', cap', cur, hv, hb, hh, _, hcm, hcs, htake⟩
  · cases hv
  · injection hv with ha _ hc
    injection ha with ha
    injection ha with hg
    subst hg; subst hc
    exact ⟨cur, hh, hcs⟩
set_option maxHeartbeats 8000000 in
set_option maxRecDepth 100000 in
theorem slices_Delete_string.mine (g m c k base : Nat) (xs : List ByteArray) (ok : Nat → Prop) (w0 w : World) (HO : Kd.R Kd.string 9 w base ok (.slice (some ⟨g,0,none⟩) (m + 1) c) xs) (hk : k < m + 1) (HB : Below base w0 w) (hbase : base ≤ w.heap.size) :
    Calls Try.prog 143 #[.slice (some ⟨g,0,none⟩) (m + 1) c, .int .i64 k, .int .i64 (k+1)] w fun e w' => e = .returned (.slice (some ⟨g,0,none⟩) m c) ∧ Kd.R Kd.string 9 w' base ok (.slice (some ⟨g,0,none⟩) m c) (xs.eraseIdx k) ∧ Below base w0 w' ∧ w.grownBy w' (some g) := by
  obtain ⟨hn, hnc, hC⟩ := Kd.R_reads' HO
  have hm : xs.length ≤ 9223372036854775807 := hC.2.1
  have HO1 := Aside0.mk HO
  have HB1 := Aside0.mk HB
  have HN := Aside0.mk hn
  have hbg := Aside0.mk (Kd.R_base HO g (by simp [Value.ownBlock]))
  clear HO HB hC
  have hm2 : m + 1 ≤ 9223372036854775807 := by omega
  clear hn hm
  go_enter Try.func143, Try.ntmps143
  go_wp2
  have e1 : (k ≤ c) = True := eq_true (by omega)
  have e2 : (0 ≤ (k : Int) + 1) = True := eq_true (by omega)
  have e3 : ((k : Int) + 1 ≤ (m : Int) + 1) = True := eq_true (by omega)
  have hA : (if c = k + 1 then some (⟨g, 0, none⟩ : Addr) else some ⟨g, k + 1, none⟩) = if c = k + 1 then some ⟨g, 0, none⟩ else (some (⟨g, 0, none⟩ : Addr)).map (·.add ((k + 1) * Kd.string.sz)) := by rw [Option.map_some, add_plain, show Kd.string.sz = 1 from rfl, Nat.mul_one]
  have HA := Aside0.mk hA
  clear hA
  have hi : (Try.prog.info? 9).map (·.size) = some Kd.string.sz := by kernel_rfl
  have HI := Aside0.mk hi
  clear hi
  have HM := Aside0.mk (show m - k = m + 1 - (k + 1) by omega)
  go_region_law (refine Kd.R_delete_step Kd.string (w0 := w0) base rfl (.tmp 22) (.tmp 25) 23 9 rfl Try.underlying23 HI.out (g := g) (n := m + 1) (c := c) (k := k) (xs := xs) (ok := ok) rfl rfl HA.out HM.out (Kd.R_drew HO1.out) hk HB1.out.drew hbase (fun w1 ho hb hg => ?_))
  obtain ⟨cur, hh, hcs⟩ := own_cellsS ho
  have ho1 := Aside0.mk ho
  have hb1 := Aside0.mk hb
  have hg1 := Aside0.mk hg
  have hh1 := Aside0.mk hh
  clear ho hb hg e1 e2 e3
  have hcl : (Builtin.clear_ #[23] 0 #[.slice (some ⟨g, m, none⟩) 1 (c - m)]).run Try.prog w1 = .ok (.tuple #[]) (w1.setCells g m [.string ⟨#[]⟩]) :=
    run_clear_one w1 23 9 0 (.string ⟨#[]⟩) Try.underlying23 (fun w => by kernel_rfl) (by decide) g m (c - m) (fun j hj => by rw [cell_of_row w1 g _ cur 9 (0, 0) hh]; simp [hcs]; simp [Value.cells] at hj; omega) (fun j hj => blk_frozen hh _)
  clear hh
  go_wp2
  all_goals
    try (have h' : c = k + 1 := by assumption
         subst h')
    go_ret
    obtain ⟨s1, s2, s3, s4⟩ := setCells_same g [.string ⟨#[]⟩] m w1
    have hfar : ∀ k', k' ≠ g → (w1.setCells g m [.string ⟨#[]⟩]).heap[k']? = w1.heap[k']? := fun k' hk' => setCells_far _ _ k' hk'
    refine ⟨rfl, R_spareS _ (by simpa using ho1.out) (by omega) (by simp; omega), hb1.out.trans ⟨s1, s2, s3, by rw [s4]; exact Nat.le_refl _, fun k' hk' => hfar k' (by have := hbg.out; omega)⟩, ?_⟩
    have hg2 : w.grownBy w1 (some g) := ⟨hg1.out.os, hg1.out.tape, hg1.out.output, hg1.out.size, hg1.out.block⟩
    exact hg2.trans ⟨s1, s2, s3, by rw [s4]; exact Nat.le_refl _, fun k' _ hk' => hfar k' (fun he => hk' (by rw [he]))⟩
theorem slices_Delete_string_string.own (A : Option Addr) (c base : Nat) (xs : List ByteArray) (i j : Int) (r : List ByteArray) (ok : Nat → Prop) (w0 w : World) (HO : Kd.R Kd.string 9 w base ok (.slice A xs.length c) xs) (h : slices_Delete_string_string.f xs i j = some r) (HB : Below base w0 w) (hbase : base ≤ w.heap.size) :
    Calls Try.prog 143 #[.slice A xs.length c, .int .i64 i, .int .i64 j] w fun e w' => ∃ v : Value, e = .returned v ∧ Kd.R Kd.string 9 w' base ok v r ∧ Below base w0 w' ∧ w.grownBy w' (Value.slice A xs.length c).ownBlock := by
  unfold slices_Delete_string_string.f at h
  by_cases hc : 0 ≤ i ∧ i < (xs.length : Int) ∧ j = i + 1
  · rw [if_pos hc] at h
    obtain rfl := Option.some.inj h
    obtain ⟨h0, h1, rfl⟩ := hc
    obtain ⟨k, rfl⟩ : ∃ k : Nat, i = (k : Int) := ⟨i.toNat, by omega⟩
    obtain ⟨m, hm⟩ : ∃ m, xs.length = m + 1 := ⟨xs.length - 1, by omega⟩
    obtain ⟨g, rfl⟩ : ∃ g, A = some ⟨g, 0, none⟩ := by
      obtain ⟨_, inner, hown, _⟩ := HO
      rcases hown.2 with ⟨hv, _⟩ | ⟨g', cap', cur, hv, _⟩
      · injection hv with _ hl; omega
      · injection hv with ha; exact ⟨g', ha⟩
    rw [hm] at HO ⊢
    exact (slices_Delete_string.mine g m c k base xs ok w0 w HO (by omega) HB hbase).mono (fun e w' ⟨e1, e2, e3, e4⟩ => ⟨_, e1, e2, e3, e4⟩)
  · rw [if_neg hc] at h
    exact absurd h (by simp)
mutual
def impl_BestHits.j0 : Nat → List ByteArray → Int → Bool → Option (List Bool)
  | 0, _, _, _ => none
  | k + 1, x0, x1, x18 => if x18 = true then (some ([] : List Bool)) else (impl_BestHits.l0 k x0 x1 (([] : List Bool)) (([] : List ByteArray)) x0 (x0.length : Int) 0)
def impl_BestHits.l0 : Nat → List ByteArray → Int → List Bool → List ByteArray → List ByteArray → Int → Int → Option (List Bool)
  | 0, _, _, _, _, _, _, _ => none
  | k + 1, x0, x1, x5, x6, x21, x22, x23 => if x23 < x22 then (if 0 ≤ x23 then (if x23 < (x21.length : Int) then ((slices_Contains_string_string.f k x6 (rdOf ByteArray.empty x21 x23)).bind fun t333 => (if x5.length < 140737488355328 then ((some (x5 ++ [t333] : List Bool)).bind fun y334 => (if t333 = true then (impl_BestHits.l0 k x0 x1 y334 x6 x21 x22 (wrap64 (x23 + 1))) else (if (x6.length : Int) = x1 then ((impl_BestGo.f k x0 x6 (wrap64 (x23 + 1))).bind fun t337 => ((slices_Delete_string_string.f x6 t337 (wrap64 (t337 + 1))).bind fun t338 => (if t338.length < 8796093022208 then (impl_BestHits.l0 k x0 x1 y334 (t338 ++ [rdOf ByteArray.empty x21 x23]) x21 x22 (wrap64 (x23 + 1))) else (none)))) else (if x6.length < 8796093022208 then (impl_BestHits.l0 k x0 x1 y334 (x6 ++ [rdOf ByteArray.empty x21 x23]) x21 x22 (wrap64 (x23 + 1))) else (none))))) else (none))) else (none)) else (none)) else (some x5)
end
def impl_BestHits.f (k : Nat) (l0 : List ByteArray) (a1 : Int) : Option (List Bool) := (impl_AsksOk.f k l0).bind fun t324 => (if t324 = true then ((impl_within.f a1 1 60).bind fun t325 => (impl_BestHits.j0 k l0 a1 (!t325))) else (impl_BestHits.j0 k l0 a1 true))
theorem impl_BestHits.mono_l : ∀ k, (∀ y0 y1 y2, LeO (impl_BestHits.j0 k y0 y1 y2) (impl_BestHits.j0 (k + 1) y0 y1 y2)) ∧ (∀ y0 y1 y2 y3 y4 y5 y6, LeO (impl_BestHits.l0 k y0 y1 y2 y3 y4 y5 y6) (impl_BestHits.l0 (k + 1) y0 y1 y2 y3 y4 y5 y6))
  | 0 => ⟨fun _ _ _ r h => by simp [impl_BestHits.j0] at h, fun _ _ _ _ _ _ _ r h => by simp [impl_BestHits.l0] at h⟩
  | k + 1 => by
    obtain ⟨ih0, ih1⟩ := impl_BestHits.mono_l k
    refine ⟨?_, ?_⟩
    · intro y0 y1 y2
      unfold impl_BestHits.j0
      repeat' first
      | (with_reducible exact ih0 _ _ _)
      | (with_reducible exact ih1 _ _ _ _ _ _ _)
      | (with_reducible exact impl_AsksOk.mono _ _)
      | (with_reducible exact impl_BestGo.mono _ _ _ _)
      | (with_reducible exact slices_Contains_string_string.mono _ _ _)
      | (with_reducible exact LeO.refl _)
      | (with_reducible exact LeO.none _)
      | (with_reducible refine LeO.ite ?_ ?_)
      | (with_reducible refine LeO.bind ?_ (fun _ => ?_))
      | exact ih0 _ _ _
      | exact ih1 _ _ _ _ _ _ _
      | exact impl_AsksOk.mono _ _
      | exact impl_BestGo.mono _ _ _ _
      | exact slices_Contains_string_string.mono _ _ _
      | exact LeO.none _
      | refine LeO.ite ?_ ?_
      | refine LeO.bind ?_ (fun _ => ?_)
    · intro y0 y1 y2 y3 y4 y5 y6
      unfold impl_BestHits.l0
      repeat' first
      | (with_reducible exact ih0 _ _ _)
      | (with_reducible exact ih1 _ _ _ _ _ _ _)
      | (with_reducible exact impl_AsksOk.mono _ _)
      | (with_reducible exact impl_BestGo.mono _ _ _ _)
      | (with_reducible exact slices_Contains_string_string.mono _ _ _)
      | (with_reducible exact LeO.refl _)
      | (with_reducible exact LeO.none _)
      | (with_reducible refine LeO.ite ?_ ?_)
      | (with_reducible refine LeO.bind ?_ (fun _ => ?_))
      | exact ih0 _ _ _
      | exact ih1 _ _ _ _ _ _ _
      | exact impl_AsksOk.mono _ _
      | exact impl_BestGo.mono _ _ _ _
      | exact slices_Contains_string_string.mono _ _ _
      | exact LeO.none _
      | refine LeO.ite ?_ ?_
      | refine LeO.bind ?_ (fun _ => ?_)
theorem impl_BestHits.mono : ∀ a0 a1 k, LeO (impl_BestHits.f k a0 a1) (impl_BestHits.f (k + 1) a0 a1) := by
  intro a0 a1 k
  obtain ⟨ih0, ih1⟩ := impl_BestHits.mono_l k
  unfold impl_BestHits.f
  repeat' first
      | (with_reducible exact ih0 _ _ _)
      | (with_reducible exact ih1 _ _ _ _ _ _ _)
      | (with_reducible exact impl_AsksOk.mono _ _)
      | (with_reducible exact impl_BestGo.mono _ _ _ _)
      | (with_reducible exact slices_Contains_string_string.mono _ _ _)
      | (with_reducible exact LeO.refl _)
      | (with_reducible exact LeO.none _)
      | (with_reducible refine LeO.ite ?_ ?_)
      | (with_reducible refine LeO.bind ?_ (fun _ => ?_))
      | exact ih0 _ _ _
      | exact ih1 _ _ _ _ _ _ _
      | exact impl_AsksOk.mono _ _
      | exact impl_BestGo.mono _ _ _ _
      | exact slices_Contains_string_string.mono _ _ _
      | exact LeO.none _
      | refine LeO.ite ?_ ?_
      | refine LeO.bind ?_ (fun _ => ?_)
set_option maxHeartbeats 8000000 in
set_option maxRecDepth 100000 in
theorem impl_BestHits.calls (k : Nat) (A0 : Option Addr) (c0 : Nat) (l0 : List ByteArray) (a1 : Int) (r : List Bool) (w : World) (hr0 : Kd.C Kd.string w A0 l0.length l0) (hc0 : l0.length ≤ c0) (h : impl_BestHits.f k l0 a1 = some r) :
    Calls Try.prog 84 #[.slice A0 l0.length c0, .int .i64 a1] w fun e w' => ∃ v0_ : Value, e = .returned (v0_) ∧ Kd.R Kd.bool 4 w' w.heap.size (fun _ => True) v0_ r ∧ Below w.heap.size w w' := by
  have HR0 := Aside0.mk hr0
  have HC0 := Aside0.mk hc0
  clear hr0 hc0
  have HB := Aside0.mk (Below.refl w.heap.size w)
  have H : ((impl_AsksOk.f k l0).bind fun t324 => (if t324 = true then ((impl_within.f a1 1 60).bind fun t325 => (impl_BestHits.j0 k l0 a1 (!t325))) else (impl_BestHits.j0 k l0 a1 true))) = some r := h
  clear h
  have HC3 := Aside0.mk H
  clear H
  go_enter Try.func84, Try.ntmps84
  go_upto_region 1 with (fail)
  go_cut [18] (fun v18 wc => ∃ (kq : Nat) (x18_2 : Bool), v18 = .bool x18_2 ∧ Aside0 (impl_BestHits.j0 kq l0 a1 x18_2 = some r) ∧ Aside0 (kq ≤ k) ∧ Aside0 (Below w.heap.size w wc))
  case first =>
    have H := HC3.out
    clear HC3
    replace H := Option.bind_eq_some_iff.mp H
    obtain ⟨t324, A40, H⟩ := H
    replace H : (if t324 = true then ((impl_within.f a1 1 60).bind fun t325 => (impl_BestHits.j0 k l0 a1 (!t325))) else (impl_BestHits.j0 k l0 a1 true)) = some r := H
    have A4 := Aside0.mk A40
    clear A40
    by_cases c5 : t324 = true
    · subst c5
      have H1 : ((impl_within.f a1 1 60).bind fun t325 => (impl_BestHits.j0 k l0 a1 (!t325))) = some r := by rw [if_pos rfl] at H; exact H
      clear H
      have H := H1
      clear H1
      replace H := Option.bind_eq_some_iff.mp H
      obtain ⟨t325, A60, H⟩ := H
      replace H : (impl_BestHits.j0 k l0 a1 (!t325)) = some r := H
      have A6 := Aside0.mk A60
      clear A60
      have H' := Aside0.mk H
      clear H
      go_wp2_with (first | ((with_reducible refine gate_callee (f := 37) rfl ?_); refine goesL_ (some 12) rfl rfl Try.func37 (by kernel_rfl) rfl #[.slice A0 l0.length c0] rfl (by (try simp only [List.map_toArray, List.map_cons, List.map_nil]); first | done | rfl | (simp only [List.length_drop, List.length_take]; rfl)) ?_; (with_reducible refine (impl_AsksOk.calls k _ _ l0 true _ ?side1 ?side2 A4.out).mono ?_); (case side1 => repeat (first | exact (Kd.C_below HR0.out HB.out) | (with_reducible refine Kd.C_alloc ?_ _) | (with_reducible refine Kd.C_drewN ?_ _) | (with_reducible refine Kd.C_drew ?_))); (case side2 => exact HC0.out); rintro e w7 ⟨rfl, hb⟩; refine ⟨_, rfl, ?_⟩; have n0_ := Aside0.mk (below_step (by repeat (first | (with_reducible first | exact HB.out | apply below_alloc | apply pw_below_drewN | apply below_drew1) | exact HB.out)) hb); clear HB; have HB := n0_; clear n0_; (try clear hb); (try clear hb2); (try clear hk); (try clear hi)) | (go_at_call 82; (with_reducible refine (impl_within.calls a1 1 60 t325 _ A6.out).mono ?_); rintro e w' ⟨rfl, ⟨nd, rfl⟩⟩))
      go_meet
      case rel => exact ⟨_, (!t325), (by first | rfl | (simp; done) | (simp [*]; done)), H', ⟨by first | omega | exact Nat.le_refl _⟩, ⟨by repeat (first | (with_reducible first | exact HB.out | apply below_alloc | apply pw_below_drewN | apply below_drew1) | exact HB.out)⟩⟩
    · replace c5 := Bool.eq_false_iff.mpr c5
      subst c5
      have H1 : (impl_BestHits.j0 k l0 a1 true) = some r := by rw [if_neg (show ¬ (false = true) by decide)] at H; exact H
      clear H
      have H := H1
      clear H1
      have H' := Aside0.mk H
      clear H
      go_wp2_with (first | ((with_reducible refine gate_callee (f := 37) rfl ?_); refine goesL_ (some 12) rfl rfl Try.func37 (by kernel_rfl) rfl #[.slice A0 l0.length c0] rfl (by (try simp only [List.map_toArray, List.map_cons, List.map_nil]); first | done | rfl | (simp only [List.length_drop, List.length_take]; rfl)) ?_; (with_reducible refine (impl_AsksOk.calls k _ _ l0 false _ ?side1 ?side2 A4.out).mono ?_); (case side1 => repeat (first | exact (Kd.C_below HR0.out HB.out) | (with_reducible refine Kd.C_alloc ?_ _) | (with_reducible refine Kd.C_drewN ?_ _) | (with_reducible refine Kd.C_drew ?_))); (case side2 => exact HC0.out); rintro e w8 ⟨rfl, hb⟩; refine ⟨_, rfl, ?_⟩; have n0_ := Aside0.mk (below_step (by repeat (first | (with_reducible first | exact HB.out | apply below_alloc | apply pw_below_drewN | apply below_drew1) | exact HB.out)) hb); clear HB; have HB := n0_; clear n0_; (try clear hb); (try clear hb2); (try clear hk); (try clear hi)))
      go_meet
      case rel => exact ⟨_, (true), (by first | rfl | (simp; done) | (simp [*]; done)), H', ⟨by first | omega | exact Nat.le_refl _⟩, ⟨by repeat (first | (with_reducible first | exact HB.out | apply below_alloc | apply pw_below_drewN | apply below_drew1) | exact HB.out)⟩⟩
  case rest =>
    clear HC3
    try clear p2
    try clear c3
    try clear c5
    try clear c8
    obtain ⟨kq, x18_2, rfl, HA, HJ2, HB⟩ := hcut
    cases kq with
    | zero => exact absurd HA.out (by simp [impl_BestHits.j0])
    | succ kj2 =>
      have H := HA.out
      clear HA
      simp only [impl_BestHits.j0] at H
      by_cases c9 : x18_2 = true
      · subst c9
        have H1 : (some ([] : List Bool)) = some r := by rw [if_pos rfl] at H; exact H
        clear H
        have H := H1
        clear H1
        obtain rfl := Option.some.inj H
        go_wp2
        go_ret
        exact ⟨_, by first | rfl | (simp [errW_none, errW_some] <;> rfl) | (simp [*, errW_none, errW_some] <;> rfl), by first | exact Kd.R_nil _ _ _ _ _ | exact Kd.N_nil _ _ _ _ _ | exact Kd.V_nil _ _ _ _ _ | exact Kd.Q_nil _ _ _ _ _ | exact Kd.S_nil _ _ _ _ _, by repeat (first | (with_reducible first | exact HB.out | apply below_alloc | apply pw_below_drewN | apply below_drew1) | exact HB.out)⟩
      · replace c9 := Bool.eq_false_iff.mpr c9
        subst c9
        have H1 : (impl_BestHits.l0 kj2 l0 a1 (([] : List Bool)) (([] : List ByteArray)) l0 (l0.length : Int) 0) = some r := by rw [if_neg (show ¬ (false = true) by decide)] at H; exact H
        clear H
        have H := H1
        clear H1
        obtain ⟨y326, hy326⟩ : ∃ y_ : List Bool, y_ = (([] : List Bool)) := ⟨_, rfl⟩
        replace H : (impl_BestHits.l0 kj2 l0 a1 y326 (([] : List ByteArray)) l0 (l0.length : Int) 0) = some r := by first | (rw [hy326]; with_reducible exact H) | (have H2_ := (Option.bind_some _ _).symm.trans H; rw [hy326]; with_reducible exact H2_) | (have H2_ := (Option.bind_some _ _).symm.trans H; with_reducible exact H2_) | with_reducible exact H | (rw [hy326]; exact H) | exact H
        have Ny326 := Aside0.mk hy326
        clear hy326
        obtain ⟨y329, hy329⟩ : ∃ y_ : List ByteArray, y_ = (([] : List ByteArray)) := ⟨_, rfl⟩
        replace H : (impl_BestHits.l0 kj2 l0 a1 y326 y329 l0 (l0.length : Int) 0) = some r := by first | (rw [hy329]; with_reducible exact H) | (have H2_ := (Option.bind_some _ _).symm.trans H; rw [hy329]; with_reducible exact H2_) | (have H2_ := (Option.bind_some _ _).symm.trans H; with_reducible exact H2_) | with_reducible exact H | (rw [hy329]; exact H) | exact H
        have Ny329 := Aside0.mk hy329
        clear hy329
        have H' := Aside0.mk H
        clear H
        go_wp2_with (first | ((with_reducible refine gate_dst (N := 19) rfl ?_); refine Kd.R_lit Kd.bool _ 4 ?hg (N := 19) ?hd (xs := ([] : List Bool)) (inner := []) (ok := fun _ => True) (okp := fun _ => True) ?hr ?hp (fun _ hk => hk) trivial (Below.refl _ _) (Nat.le_refl _) (by simp) ?_; (case hd => rfl); (case hg => rfl); (case hr => first | (go_simp; done) | (go_simp; rfl)); (case hp => exact (Reps.none _ _)); intro v327 w10 ho11 hb hg_ hnew_; clear hg_ hnew_; (first | rw [← Ny326.out] at ho11 | (simp only [Int.reduceToNat] at ho11; rw [← Ny326.out] at ho11)); have n0_ := Aside0.mk (Kd.R_lower ho11 (below_size (by repeat (first | (with_reducible first | exact HB.out | apply below_alloc | apply pw_below_drewN | apply below_drew1) | exact HB.out)))); have n1_ := Aside0.mk (below_step (by repeat (first | (with_reducible first | exact HB.out | apply below_alloc | apply pw_below_drewN | apply below_drew1) | exact HB.out)) hb); clear HB; have HO328 := n0_; have HB := n1_; clear n0_ n1_; clear hb ho11) | ((with_reducible refine gate_dst (N := 20) rfl ?_); refine Kd.R_lit Kd.string _ 9 ?hg (N := 20) ?hd (xs := ([] : List ByteArray)) (inner := []) (ok := fun _ => True) (okp := fun _ => True) ?hr ?hp (fun _ hk => hk) trivial (Below.refl _ _) (Nat.le_refl _) (by simp) ?_; (case hd => rfl); (case hg => rfl); (case hr => first | (go_simp; done) | (go_simp; rfl)); (case hp => exact (Reps.none _ _)); intro v330 w12 ho13 hb hg_ hnew_; clear hg_ hnew_; (first | rw [← Ny329.out] at ho13 | (simp only [Int.reduceToNat] at ho13; rw [← Ny329.out] at ho13)); have n0_ := Aside0.mk (Kd.R_below (by (with_reducible repeat (first | apply Kd.R_alloc | apply Kd.R_drewN | apply Kd.R_drew)); exact HO328.out) hb); have n1_ := Aside0.mk (Kd.R_lower ho13 (below_size (by repeat (first | (with_reducible first | exact HB.out | apply below_alloc | apply pw_below_drewN | apply below_drew1) | exact HB.out)))); have n2_ := Aside0.mk (below_step (by repeat (first | (with_reducible first | exact HB.out | apply below_alloc | apply pw_below_drewN | apply below_drew1) | exact HB.out)) hb); clear HO328; clear HB; have HO328 := n0_; have HO331 := n1_; have HB := n2_; clear n0_ n1_ n2_; clear hb ho13))
        go_loopg [5, 6, 23] kj2 (fun kq v5 v6 v23 w' => ∃ (x5_2 : List Bool) (x6_2 : List ByteArray) (x23_2 : Int), v23 = .int .i64 x23_2 ∧ Aside0 (impl_BestHits.l0 kq l0 a1 x5_2 x6_2 l0 (l0.length : Int) x23_2 = some r) ∧ Aside0 (kq ≤ kj2) ∧ Aside0 (Kd.R Kd.bool 4 w' w.heap.size (fun _ => True) v5 x5_2) ∧ Aside0 (Kd.R Kd.string 9 w' w.heap.size (fun _ => True) v6 x6_2) ∧ Aside0 (Below w.heap.size w w'))
        case atStart => exact ⟨(y326), (y329), (0), (by first | rfl | (simp; done) | (simp [*]; done)), H', ⟨Nat.le_refl _⟩, ⟨by (with_reducible repeat (first | apply Kd.R_alloc | apply Kd.R_drewN | apply Kd.R_drew)); exact HO328.out⟩, ⟨by (with_reducible repeat (first | apply Kd.R_alloc | apply Kd.R_drewN | apply Kd.R_drew)); exact HO331.out⟩, ⟨by repeat (first | (with_reducible first | exact HB.out | apply below_alloc | apply pw_below_drewN | apply below_drew1) | exact HB.out)⟩⟩
        case round =>
          clear H'
          try clear p2
          try clear c3
          try clear c5
          try clear c8
          try clear c9
          try clear p2
          obtain ⟨x5_2, x6_2, x23_2, rfl, HA, HK2, HO_5, HO_6, HB⟩ := hrel
          cases gk with
          | zero => exact absurd HA.out (by simp [impl_BestHits.l0])
          | succ k2 =>
            have H := HA.out
            clear HA
            simp only [impl_BestHits.l0] at H
            by_cases c14 : x23_2 < (l0.length : Int)
            · rw [if_pos c14] at H
              have c14b0 : decide (x23_2 < (l0.length : Int)) = true := decide_eq_true c14
              clear c14
              by_cases c15 : 0 ≤ x23_2
              · rw [if_pos c15] at H
                have c15b0 : decide (0 ≤ x23_2) = true := decide_eq_true c15
                clear c15
                by_cases c16 : x23_2 < (l0.length : Int)
                · rw [if_pos c16] at H
                  have c16b0 : decide (x23_2 < (l0.length : Int)) = true := decide_eq_true c16
                  clear c16
                  replace H := Option.bind_eq_some_iff.mp H
                  obtain ⟨t333, A170, H⟩ := H
                  replace H : (if x5_2.length < 140737488355328 then ((some (x5_2 ++ [t333] : List Bool)).bind fun y334 => (if t333 = true then (impl_BestHits.l0 k2 l0 a1 y334 x6_2 l0 (l0.length : Int) (wrap64 (x23_2 + 1))) else (if (x6_2.length : Int) = a1 then ((impl_BestGo.f k2 l0 x6_2 (wrap64 (x23_2 + 1))).bind fun t337 => ((slices_Delete_string_string.f x6_2 t337 (wrap64 (t337 + 1))).bind fun t338 => (if t338.length < 8796093022208 then (impl_BestHits.l0 k2 l0 a1 y334 (t338 ++ [rdOf ByteArray.empty l0 x23_2]) l0 (l0.length : Int) (wrap64 (x23_2 + 1))) else (none)))) else (if x6_2.length < 8796093022208 then (impl_BestHits.l0 k2 l0 a1 y334 (x6_2 ++ [rdOf ByteArray.empty l0 x23_2]) l0 (l0.length : Int) (wrap64 (x23_2 + 1))) else (none))))) else (none)) = some r := H
                  have A17 := Aside0.mk A170
                  clear A170
                  by_cases c18 : x5_2.length < 140737488355328
                  · rw [if_pos c18] at H
                    have LMc18 := Aside0.mk c18
                    clear c18
                    obtain ⟨y334, hy334⟩ : ∃ y_ : List Bool, y_ = (x5_2 ++ [t333]) := ⟨_, rfl⟩
                    replace H : (if t333 = true then (impl_BestHits.l0 k2 l0 a1 y334 x6_2 l0 (l0.length : Int) (wrap64 (x23_2 + 1))) else (if (x6_2.length : Int) = a1 then ((impl_BestGo.f k2 l0 x6_2 (wrap64 (x23_2 + 1))).bind fun t337 => ((slices_Delete_string_string.f x6_2 t337 (wrap64 (t337 + 1))).bind fun t338 => (if t338.length < 8796093022208 then (impl_BestHits.l0 k2 l0 a1 y334 (t338 ++ [rdOf ByteArray.empty l0 x23_2]) l0 (l0.length : Int) (wrap64 (x23_2 + 1))) else (none)))) else (if x6_2.length < 8796093022208 then (impl_BestHits.l0 k2 l0 a1 y334 (x6_2 ++ [rdOf ByteArray.empty l0 x23_2]) l0 (l0.length : Int) (wrap64 (x23_2 + 1))) else (none)))) = some r := by first | (rw [hy334]; with_reducible exact H) | (have H2_ := (Option.bind_some _ _).symm.trans H; rw [hy334]; with_reducible exact H2_) | (have H2_ := (Option.bind_some _ _).symm.trans H; with_reducible exact H2_) | with_reducible exact H | (rw [hy334]; exact H) | exact H
                    have Ny334 := Aside0.mk hy334
                    clear hy334
                    by_cases c19 : t333 = true
                    · subst c19
                      have H1 : (impl_BestHits.l0 k2 l0 a1 y334 x6_2 l0 (l0.length : Int) (wrap64 (x23_2 + 1))) = some r := by rw [if_pos rfl] at H; exact H
                      clear H
                      have H := H1
                      clear H1
                      have H' := Aside0.mk H
                      clear H
                      have p332 : 0 ≤ (x23_2 : Int) := of_decide_eq_true (by first | (with_reducible assumption) | assumption)
                      have q332 : x23_2 < (l0.length : Int) := of_decide_eq_true (by first | (with_reducible assumption) | assumption)
                      obtain ⟨ad332, e332, hx332_0⟩ := Kd.at_string HR0.out x23_2 p332 q332
                      cases e332
                      replace hx332_0 := (HB.out.cell (World.block_lt_of_cell? w _ hx332_0)).trans hx332_0
                      replace p332 := eq_true p332
                      replace q332 := eq_true q332
                      obtain ⟨Ao20, co20, eo20⟩ := Kd.R_slice HO_6.out
                      subst eo20
                      go_wp2_with (first | ((with_reducible refine gate_callee (f := 71) rfl ?_); refine goesL_ (some 30) rfl rfl Try.func71 (by kernel_rfl) rfl #[.slice Ao20 x6_2.length co20, .string (rdOf ByteArray.empty l0 x23_2)] rfl (by (try simp only [List.map_toArray, List.map_cons, List.map_nil]); first | done | rfl | (simp only [List.length_drop, List.length_take]; rfl)) ?_; (with_reducible refine (slices_Contains_string_string.calls k2 _ _ x6_2 (rdOf ByteArray.empty l0 x23_2) true _ ?side1 ?side2 A17.out).mono ?_); (case side1 => repeat (first | exact (Kd.R_reads' HO_6.out).2.2 | (with_reducible refine Kd.C_alloc ?_ _) | (with_reducible refine Kd.C_drewN ?_ _) | (with_reducible refine Kd.C_drew ?_))); (case side2 => exact (Kd.R_reads' HO_6.out).2.1); rintro e w' ⟨rfl, ⟨nd, rfl⟩⟩; refine ⟨_, rfl, ?_⟩) | ((with_reducible refine gate_builtin (b := .append) (xs := #[.tmp 31, .tmp 33]) rfl ?_); at_builtin; refine Kd.R_append Kd.bool (w0 := w) w.heap.size rfl (.tmp 31) (.tmp 33) 59 4 (.bool false) 1 rfl Try.underlying59 info4 rfl (by decide) (by omega) u5 x5_2 true [.bool true] (fun _ => True) (fun _ => False) rfl rfl ?aP (fun _ hk => hk.elim) ?aF ?aO ?aB ?aS ?aL ?_; (case aP => exact rfl); (case aB => exact (by repeat (first | (with_reducible first | exact HB.out | apply below_alloc | apply pw_below_drewN | apply below_drew1) | exact HB.out))); (case aF => exact (fun _ _ => trivial)); (case aO => exact (by (with_reducible repeat (first | apply Kd.R_alloc | apply Kd.R_drewN | apply Kd.R_drew)); exact HO_5.out)); (case aS => exact (below_size (by repeat (first | (with_reducible first | exact HB.out | apply below_alloc | apply pw_below_drewN | apply below_drew1) | exact HB.out)))); (case aL => have := LMc18.out; omega); intro v335 w21 ho hb hg hat; rw [← Ny334.out] at ho; have n0_ := Aside0.mk (Kd.R_over' (by (with_reducible repeat (first | apply Kd.R_alloc | apply Kd.R_drewN | apply Kd.R_drew)); exact HO_6.out) (Kd.R_typed (by (with_reducible repeat (first | apply Kd.R_alloc | apply Kd.R_drewN | apply Kd.R_drew)); exact HO_5.out)) (by decide) hg); have n1_ := Aside0.mk (hb); have n2_ := Aside0.mk (ho); clear HO_6; clear HB; clear HO_5; have HO_6 := n0_; have HB := n1_; have HO336 := n2_; clear n0_ n1_ n2_; clear ho hb hg hat))
                      go_roundg k2
                      case measure => have := HJ2.out; have := HK2.out; omega
                      case rel => exact ⟨(y334), (x6_2), (wrap64 (x23_2 + 1)), (by first | rfl | (simp; done) | (simp [*]; done)), H', ⟨by have := HJ2.out; have := HK2.out; omega⟩, ⟨by (with_reducible repeat (first | apply Kd.R_alloc | apply Kd.R_drewN | apply Kd.R_drew)); exact HO336.out⟩, ⟨by (with_reducible repeat (first | apply Kd.R_alloc | apply Kd.R_drewN | apply Kd.R_drew)); exact HO_6.out⟩, ⟨by repeat (first | (with_reducible first | exact HB.out | apply below_alloc | apply pw_below_drewN | apply below_drew1) | exact HB.out)⟩⟩
                    · replace c19 := Bool.eq_false_iff.mpr c19
                      subst c19
                      have H1 : (if (x6_2.length : Int) = a1 then ((impl_BestGo.f k2 l0 x6_2 (wrap64 (x23_2 + 1))).bind fun t337 => ((slices_Delete_string_string.f x6_2 t337 (wrap64 (t337 + 1))).bind fun t338 => (if t338.length < 8796093022208 then (impl_BestHits.l0 k2 l0 a1 y334 (t338 ++ [rdOf ByteArray.empty l0 x23_2]) l0 (l0.length : Int) (wrap64 (x23_2 + 1))) else (none)))) else (if x6_2.length < 8796093022208 then (impl_BestHits.l0 k2 l0 a1 y334 (x6_2 ++ [rdOf ByteArray.empty l0 x23_2]) l0 (l0.length : Int) (wrap64 (x23_2 + 1))) else (none))) = some r := by rw [if_neg (show ¬ (false = true) by decide)] at H; exact H
                      clear H
                      have H := H1
                      clear H1
                      by_cases c22 : (x6_2.length : Int) = a1
                      · rw [if_pos c22] at H
                        have c22b0 : ((x6_2.length : Int) == a1) = true := beq_iff_eq.mpr c22
                        have c22b1 : ((x6_2.length : Int) != a1) = false := bne_eq_false_iff_eq.mpr c22
                        clear c22
                        replace H := Option.bind_eq_some_iff.mp H
                        obtain ⟨t337, A230, H⟩ := H
                        replace H : ((slices_Delete_string_string.f x6_2 t337 (wrap64 (t337 + 1))).bind fun t338 => (if t338.length < 8796093022208 then (impl_BestHits.l0 k2 l0 a1 y334 (t338 ++ [rdOf ByteArray.empty l0 x23_2]) l0 (l0.length : Int) (wrap64 (x23_2 + 1))) else (none))) = some r := H
                        have A23 := Aside0.mk A230
                        clear A230
                        replace H := Option.bind_eq_some_iff.mp H
                        obtain ⟨t338, A240, H⟩ := H
                        replace H : (if t338.length < 8796093022208 then (impl_BestHits.l0 k2 l0 a1 y334 (t338 ++ [rdOf ByteArray.empty l0 x23_2]) l0 (l0.length : Int) (wrap64 (x23_2 + 1))) else (none)) = some r := H
                        have A24 := Aside0.mk A240
                        clear A240
                        by_cases c25 : t338.length < 8796093022208
                        · rw [if_pos c25] at H
                          have LMc25 := Aside0.mk c25
                          clear c25
                          obtain ⟨y341, hy341⟩ : ∃ y_ : List ByteArray, y_ = (t338 ++ [rdOf ByteArray.empty l0 x23_2]) := ⟨_, rfl⟩
                          replace H : (impl_BestHits.l0 k2 l0 a1 y334 y341 l0 (l0.length : Int) (wrap64 (x23_2 + 1))) = some r := by first | (rw [hy341]; with_reducible exact H) | (have H2_ := (Option.bind_some _ _).symm.trans H; rw [hy341]; with_reducible exact H2_) | (have H2_ := (Option.bind_some _ _).symm.trans H; with_reducible exact H2_) | with_reducible exact H | (rw [hy341]; exact H) | exact H
                          have Ny341 := Aside0.mk hy341
                          clear hy341
                          have H' := Aside0.mk H
                          clear H
                          have p332 : 0 ≤ (x23_2 : Int) := of_decide_eq_true (by first | (with_reducible assumption) | assumption)
                          have q332 : x23_2 < (l0.length : Int) := of_decide_eq_true (by first | (with_reducible assumption) | assumption)
                          obtain ⟨ad332, e332, hx332_0⟩ := Kd.at_string HR0.out x23_2 p332 q332
                          cases e332
                          replace hx332_0 := (HB.out.cell (World.block_lt_of_cell? w _ hx332_0)).trans hx332_0
                          replace p332 := eq_true p332
                          replace q332 := eq_true q332
                          obtain ⟨Ao26, co26, eo26⟩ := Kd.R_slice HO_6.out
                          subst eo26
                          go_wp2_with (first | ((with_reducible refine gate_callee (f := 71) rfl ?_); refine goesL_ (some 30) rfl rfl Try.func71 (by kernel_rfl) rfl #[.slice Ao26 x6_2.length co26, .string (rdOf ByteArray.empty l0 x23_2)] rfl (by (try simp only [List.map_toArray, List.map_cons, List.map_nil]); first | done | rfl | (simp only [List.length_drop, List.length_take]; rfl)) ?_; (with_reducible refine (slices_Contains_string_string.calls k2 _ _ x6_2 (rdOf ByteArray.empty l0 x23_2) false _ ?side1 ?side2 A17.out).mono ?_); (case side1 => repeat (first | exact (Kd.R_reads' HO_6.out).2.2 | (with_reducible refine Kd.C_alloc ?_ _) | (with_reducible refine Kd.C_drewN ?_ _) | (with_reducible refine Kd.C_drew ?_))); (case side2 => exact (Kd.R_reads' HO_6.out).2.1); rintro e w' ⟨rfl, ⟨nd, rfl⟩⟩; refine ⟨_, rfl, ?_⟩) | ((with_reducible refine gate_builtin (b := .append) (xs := #[.tmp 31, .tmp 33]) rfl ?_); at_builtin; refine Kd.R_append Kd.bool (w0 := w) w.heap.size rfl (.tmp 31) (.tmp 33) 59 4 (.bool false) 1 rfl Try.underlying59 info4 rfl (by decide) (by omega) u5 x5_2 false [.bool false] (fun _ => True) (fun _ => False) rfl rfl ?aP (fun _ hk => hk.elim) ?aF ?aO ?aB ?aS ?aL ?_; (case aP => exact rfl); (case aB => exact (by repeat (first | (with_reducible first | exact HB.out | apply below_alloc | apply pw_below_drewN | apply below_drew1) | exact HB.out))); (case aF => exact (fun _ _ => trivial)); (case aO => exact (by (with_reducible repeat (first | apply Kd.R_alloc | apply Kd.R_drewN | apply Kd.R_drew)); exact HO_5.out)); (case aS => exact (below_size (by repeat (first | (with_reducible first | exact HB.out | apply below_alloc | apply pw_below_drewN | apply below_drew1) | exact HB.out)))); (case aL => have := LMc18.out; omega); intro v335 w27 ho hb hg hat; rw [← Ny334.out] at ho; have n0_ := Aside0.mk (Kd.R_over' (by (with_reducible repeat (first | apply Kd.R_alloc | apply Kd.R_drewN | apply Kd.R_drew)); exact HO_6.out) (Kd.R_typed (by (with_reducible repeat (first | apply Kd.R_alloc | apply Kd.R_drewN | apply Kd.R_drew)); exact HO_5.out)) (by decide) hg); have n1_ := Aside0.mk (hb); have n2_ := Aside0.mk (ho); clear HO_6; clear HB; clear HO_5; have HO_6 := n0_; have HB := n1_; have HO336 := n2_; clear n0_ n1_ n2_; clear ho hb hg hat) | ((with_reducible refine gate_callee (f := 142) rfl ?_); refine goesL_ (some 44) rfl rfl Try.func142 (by kernel_rfl) rfl #[.slice (some ad332) l0.length c0, .slice Ao26 x6_2.length co26, .int .i64 (wrap64 (x23_2 + 1))] rfl (by (try simp only [List.map_toArray, List.map_cons, List.map_nil]); first | done | rfl | (simp only [List.length_drop, List.length_take]; rfl)) ?_; (with_reducible refine (impl_BestGo.calls k2 _ _ l0 _ _ x6_2 (wrap64 (x23_2 + 1)) t337 _ ?side1 ?side2 ?side3 ?side4 A23.out).mono ?_); (case side1 => repeat (first | exact (Kd.C_below HR0.out HB.out) | (with_reducible refine Kd.C_alloc ?_ _) | (with_reducible refine Kd.C_drewN ?_ _) | (with_reducible refine Kd.C_drew ?_))); (case side2 => exact HC0.out); (case side3 => repeat (first | exact (Kd.R_reads' HO_6.out).2.2 | (with_reducible refine Kd.C_alloc ?_ _) | (with_reducible refine Kd.C_drewN ?_ _) | (with_reducible refine Kd.C_drew ?_))); (case side4 => exact (Kd.R_reads' HO_6.out).2.1); rintro e w28 ⟨rfl, hb⟩; refine ⟨_, rfl, ?_⟩; have n0_ := Aside0.mk (Kd.R_below (by (with_reducible repeat (first | apply Kd.R_alloc | apply Kd.R_drewN | apply Kd.R_drew)); exact HO_6.out) hb); have n1_ := Aside0.mk (Kd.R_below (by (with_reducible repeat (first | apply Kd.R_alloc | apply Kd.R_drewN | apply Kd.R_drew)); exact HO336.out) hb); have n2_ := Aside0.mk (below_step (by repeat (first | (with_reducible first | exact HB.out | apply below_alloc | apply pw_below_drewN | apply below_drew1) | exact HB.out)) hb); clear HO_6; clear HO336; clear HB; have HO_6 := n0_; have HO336 := n1_; have HB := n2_; clear n0_ n1_ n2_; (try clear hb); (try clear hb2); (try clear hk); (try clear hi)) | (go_at_call 143; (with_reducible refine (slices_Delete_string_string.own Ao26 co26 w.heap.size x6_2 t337 (wrap64 (t337 + 1)) t338 _ w _ HO_6.out A24.out HB.out (below_size HB.out)).mono ?_); rintro e w29 ⟨v339, rfl, ho0, hb, hg⟩; have n_HO336 := Aside0.mk (Kd.R_over' HO336.out (Kd.R_typed HO_6.out) (by decide) hg); have n_new := Aside0.mk ho0; have n_b := Aside0.mk hb; have n_nil := Aside0.mk (show Kd.R Kd.string 9 w29 w.heap.size (fun _ => True) (.slice none 0 0) [] from Kd.R_nil _ _ _ _ _); clear HO_6 HO336 HB; have HO336 := n_HO336; clear n_HO336; have HO340 := n_new; have HB := n_b; have HO_6 := n_nil; clear n_new n_b n_nil ho0 hb hg) | ((with_reducible refine gate_builtin (b := .append) (xs := #[.tmp 50, .tmp 52]) rfl ?_); at_builtin; refine Kd.R_append Kd.string (w0 := w) w.heap.size rfl (.tmp 50) (.tmp 52) 23 9 (.string ⟨#[]⟩) 16 rfl Try.underlying23 info9 rfl (by decide) (by omega) v339 t338 (rdOf ByteArray.empty l0 x23_2) [.string (rdOf ByteArray.empty l0 x23_2)] (fun _ => True) (fun _ => False) rfl rfl ?aP (fun _ hk => hk.elim) ?aF ?aO ?aB ?aS ?aL ?_; (case aP => exact rfl); (case aB => exact (by repeat (first | (with_reducible first | exact HB.out | apply below_alloc | apply pw_below_drewN | apply below_drew1) | exact HB.out))); (case aF => exact (fun _ _ => trivial)); (case aO => exact (by (with_reducible repeat (first | apply Kd.R_alloc | apply Kd.R_drewN | apply Kd.R_drew)); exact HO340.out)); (case aS => exact (below_size (by repeat (first | (with_reducible first | exact HB.out | apply below_alloc | apply pw_below_drewN | apply below_drew1) | exact HB.out)))); (case aL => have := LMc25.out; omega); intro v342 w30 ho hb hg hat; rw [← Ny341.out] at ho; have n0_ := Aside0.mk (show Kd.R Kd.string 9 w30 w.heap.size (fun _ => True) (.slice none 0 0) [] from Kd.R_nil _ _ _ _ _); have n1_ := Aside0.mk (Kd.R_over' (by (with_reducible repeat (first | apply Kd.R_alloc | apply Kd.R_drewN | apply Kd.R_drew)); exact HO336.out) (Kd.R_typed (by (with_reducible repeat (first | apply Kd.R_alloc | apply Kd.R_drewN | apply Kd.R_drew)); exact HO340.out)) (by decide) hg); have n2_ := Aside0.mk (hb); have n3_ := Aside0.mk (ho); clear HO_6; clear HO336; clear HB; clear HO340; have HO_6 := n0_; have HO336 := n1_; have HB := n2_; have HO343 := n3_; clear n0_ n1_ n2_ n3_; clear ho hb hg hat))
                          go_roundg k2
                          case measure => have := HJ2.out; have := HK2.out; omega
                          case rel => exact ⟨(y334), (y341), (wrap64 (x23_2 + 1)), (by first | rfl | (simp; done) | (simp [*]; done)), H', ⟨by have := HJ2.out; have := HK2.out; omega⟩, ⟨by (with_reducible repeat (first | apply Kd.R_alloc | apply Kd.R_drewN | apply Kd.R_drew)); exact HO336.out⟩, ⟨by (with_reducible repeat (first | apply Kd.R_alloc | apply Kd.R_drewN | apply Kd.R_drew)); exact Kd.R_mono HO343.out (fun _ hk => trivial)⟩, ⟨by repeat (first | (with_reducible first | exact HB.out | apply below_alloc | apply pw_below_drewN | apply below_drew1) | exact HB.out)⟩⟩
                        · rw [if_neg c25] at H
                          exact absurd H (by simp)
                      · rw [if_neg c22] at H
                        have c22b0 : ((x6_2.length : Int) == a1) = false := beq_eq_false_iff_ne.mpr c22
                        have c22b1 : ((x6_2.length : Int) != a1) = true := bne_iff_ne.mpr c22
                        by_cases c31 : x6_2.length < 8796093022208
                        · rw [if_pos c31] at H
                          have LMc31 := Aside0.mk c31
                          clear c31
                          obtain ⟨y344, hy344⟩ : ∃ y_ : List ByteArray, y_ = (x6_2 ++ [rdOf ByteArray.empty l0 x23_2]) := ⟨_, rfl⟩
                          replace H : (impl_BestHits.l0 k2 l0 a1 y334 y344 l0 (l0.length : Int) (wrap64 (x23_2 + 1))) = some r := by first | (rw [hy344]; with_reducible exact H) | (have H2_ := (Option.bind_some _ _).symm.trans H; rw [hy344]; with_reducible exact H2_) | (have H2_ := (Option.bind_some _ _).symm.trans H; with_reducible exact H2_) | with_reducible exact H | (rw [hy344]; exact H) | exact H
                          have Ny344 := Aside0.mk hy344
                          clear hy344
                          have H' := Aside0.mk H
                          clear H
                          have p332 : 0 ≤ (x23_2 : Int) := of_decide_eq_true (by first | (with_reducible assumption) | assumption)
                          have q332 : x23_2 < (l0.length : Int) := of_decide_eq_true (by first | (with_reducible assumption) | assumption)
                          obtain ⟨ad332, e332, hx332_0⟩ := Kd.at_string HR0.out x23_2 p332 q332
                          cases e332
                          replace hx332_0 := (HB.out.cell (World.block_lt_of_cell? w _ hx332_0)).trans hx332_0
                          replace p332 := eq_true p332
                          replace q332 := eq_true q332
                          obtain ⟨Ao32, co32, eo32⟩ := Kd.R_slice HO_6.out
                          subst eo32
                          go_wp2_with (first | ((with_reducible refine gate_callee (f := 71) rfl ?_); refine goesL_ (some 30) rfl rfl Try.func71 (by kernel_rfl) rfl #[.slice Ao32 x6_2.length co32, .string (rdOf ByteArray.empty l0 x23_2)] rfl (by (try simp only [List.map_toArray, List.map_cons, List.map_nil]); first | done | rfl | (simp only [List.length_drop, List.length_take]; rfl)) ?_; (with_reducible refine (slices_Contains_string_string.calls k2 _ _ x6_2 (rdOf ByteArray.empty l0 x23_2) false _ ?side1 ?side2 A17.out).mono ?_); (case side1 => repeat (first | exact (Kd.R_reads' HO_6.out).2.2 | (with_reducible refine Kd.C_alloc ?_ _) | (with_reducible refine Kd.C_drewN ?_ _) | (with_reducible refine Kd.C_drew ?_))); (case side2 => exact (Kd.R_reads' HO_6.out).2.1); rintro e w' ⟨rfl, ⟨nd, rfl⟩⟩; refine ⟨_, rfl, ?_⟩) | ((with_reducible refine gate_builtin (b := .append) (xs := #[.tmp 31, .tmp 33]) rfl ?_); at_builtin; refine Kd.R_append Kd.bool (w0 := w) w.heap.size rfl (.tmp 31) (.tmp 33) 59 4 (.bool false) 1 rfl Try.underlying59 info4 rfl (by decide) (by omega) u5 x5_2 false [.bool false] (fun _ => True) (fun _ => False) rfl rfl ?aP (fun _ hk => hk.elim) ?aF ?aO ?aB ?aS ?aL ?_; (case aP => exact rfl); (case aB => exact (by repeat (first | (with_reducible first | exact HB.out | apply below_alloc | apply pw_below_drewN | apply below_drew1) | exact HB.out))); (case aF => exact (fun _ _ => trivial)); (case aO => exact (by (with_reducible repeat (first | apply Kd.R_alloc | apply Kd.R_drewN | apply Kd.R_drew)); exact HO_5.out)); (case aS => exact (below_size (by repeat (first | (with_reducible first | exact HB.out | apply below_alloc | apply pw_below_drewN | apply below_drew1) | exact HB.out)))); (case aL => have := LMc18.out; omega); intro v335 w33 ho hb hg hat; rw [← Ny334.out] at ho; have n0_ := Aside0.mk (Kd.R_over' (by (with_reducible repeat (first | apply Kd.R_alloc | apply Kd.R_drewN | apply Kd.R_drew)); exact HO_6.out) (Kd.R_typed (by (with_reducible repeat (first | apply Kd.R_alloc | apply Kd.R_drewN | apply Kd.R_drew)); exact HO_5.out)) (by decide) hg); have n1_ := Aside0.mk (hb); have n2_ := Aside0.mk (ho); clear HO_6; clear HB; clear HO_5; have HO_6 := n0_; have HB := n1_; have HO336 := n2_; clear n0_ n1_ n2_; clear ho hb hg hat) | ((with_reducible refine gate_builtin (b := .append) (xs := #[.tmp 50, .tmp 52]) rfl ?_); at_builtin; refine Kd.R_append Kd.string (w0 := w) w.heap.size rfl (.tmp 50) (.tmp 52) 23 9 (.string ⟨#[]⟩) 16 rfl Try.underlying23 info9 rfl (by decide) (by omega) (.slice Ao32 x6_2.length co32) x6_2 (rdOf ByteArray.empty l0 x23_2) [.string (rdOf ByteArray.empty l0 x23_2)] (fun _ => True) (fun _ => False) rfl rfl ?aP (fun _ hk => hk.elim) ?aF ?aO ?aB ?aS ?aL ?_; (case aP => exact rfl); (case aB => exact (by repeat (first | (with_reducible first | exact HB.out | apply below_alloc | apply pw_below_drewN | apply below_drew1) | exact HB.out))); (case aF => exact (fun _ _ => trivial)); (case aO => exact (by (with_reducible repeat (first | apply Kd.R_alloc | apply Kd.R_drewN | apply Kd.R_drew)); exact HO_6.out)); (case aS => exact (below_size (by repeat (first | (with_reducible first | exact HB.out | apply below_alloc | apply pw_below_drewN | apply below_drew1) | exact HB.out)))); (case aL => have := LMc31.out; omega); intro v345 w34 ho hb hg hat; rw [← Ny344.out] at ho; have n0_ := Aside0.mk (Kd.R_over' (by (with_reducible repeat (first | apply Kd.R_alloc | apply Kd.R_drewN | apply Kd.R_drew)); exact HO336.out) (Kd.R_typed (by (with_reducible repeat (first | apply Kd.R_alloc | apply Kd.R_drewN | apply Kd.R_drew)); exact HO_6.out)) (by decide) hg); have n1_ := Aside0.mk (hb); have n2_ := Aside0.mk (ho); clear HO336; clear HB; clear HO_6; have HO336 := n0_; have HB := n1_; have HO346 := n2_; clear n0_ n1_ n2_; clear ho hb hg hat))
                          go_roundg k2
                          case measure => have := HJ2.out; have := HK2.out; omega
                          case rel => exact ⟨(y334), (y344), (wrap64 (x23_2 + 1)), (by first | rfl | (simp; done) | (simp [*]; done)), H', ⟨by have := HJ2.out; have := HK2.out; omega⟩, ⟨by (with_reducible repeat (first | apply Kd.R_alloc | apply Kd.R_drewN | apply Kd.R_drew)); exact HO336.out⟩, ⟨by (with_reducible repeat (first | apply Kd.R_alloc | apply Kd.R_drewN | apply Kd.R_drew)); exact HO346.out⟩, ⟨by repeat (first | (with_reducible first | exact HB.out | apply below_alloc | apply pw_below_drewN | apply below_drew1) | exact HB.out)⟩⟩
                        · rw [if_neg c31] at H
                          exact absurd H (by simp)
                  · rw [if_neg c18] at H
                    exact absurd H (by simp)
                · rw [if_neg c16] at H
                  exact absurd H (by simp)
              · rw [if_neg c15] at H
                exact absurd H (by simp)
            · rw [if_neg c14] at H
              have c14b0 : decide (x23_2 < (l0.length : Int)) = false := decide_eq_false c14
              clear c14
              obtain rfl := Option.some.inj H
              go_wp2
              go_ret
              exact ⟨_, by first | rfl | (simp [errW_none, errW_some] <;> rfl) | (simp [*, errW_none, errW_some] <;> rfl), by (with_reducible repeat (first | apply Kd.R_alloc | apply Kd.R_drewN | apply Kd.R_drew)); exact HO_5.out, by repeat (first | (with_reducible first | exact HB.out | apply below_alloc | apply pw_below_drewN | apply below_drew1) | exact HB.out)⟩
def impl_BestMisses.f (k : Nat) (l0 : List ByteArray) (a1 : Int) : Option (Int) := (impl_BestHits.f k l0 a1).bind fun t347 => ((impl_hitsIn.f k t347).bind fun t350 => (some (wrap64 ((t347.length : Int) - t350))))
theorem impl_BestMisses.mono : ∀ a0 a1 k, LeO (impl_BestMisses.f k a0 a1) (impl_BestMisses.f (k + 1) a0 a1) := by
  intro a0 a1 k
  unfold impl_BestMisses.f
  repeat' first
      | (with_reducible exact impl_BestHits.mono _ _ _)
      | (with_reducible exact impl_hitsIn.mono _ _)
      | (with_reducible exact LeO.refl _)
      | (with_reducible exact LeO.none _)
      | (with_reducible refine LeO.ite ?_ ?_)
      | (with_reducible refine LeO.bind ?_ (fun _ => ?_))
      | exact impl_BestHits.mono _ _ _
      | exact impl_hitsIn.mono _ _
      | exact LeO.none _
      | refine LeO.ite ?_ ?_
      | refine LeO.bind ?_ (fun _ => ?_)
set_option maxHeartbeats 8000000 in
set_option maxRecDepth 100000 in
theorem impl_BestMisses.calls (k : Nat) (A0 : Option Addr) (c0 : Nat) (l0 : List ByteArray) (a1 : Int) (r : Int) (w : World) (hr0 : Kd.C Kd.string w A0 l0.length l0) (hc0 : l0.length ≤ c0) (h : impl_BestMisses.f k l0 a1 = some r) :
    Calls Try.prog 26 #[.slice A0 l0.length c0, .int .i64 a1] w fun e w' => e = .returned (.int .i64 r) ∧ Below w.heap.size w w' := by
  have HR0 := Aside0.mk hr0
  have HC0 := Aside0.mk hc0
  clear hr0 hc0
  have HB := Aside0.mk (Below.refl w.heap.size w)
  have H : ((impl_BestHits.f k l0 a1).bind fun t347 => ((impl_hitsIn.f k t347).bind fun t350 => (some (wrap64 ((t347.length : Int) - t350))))) = some r := h
  clear h
  replace H := Option.bind_eq_some_iff.mp H
  obtain ⟨t347, A30, H⟩ := H
  replace H : ((impl_hitsIn.f k t347).bind fun t350 => (some (wrap64 ((t347.length : Int) - t350)))) = some r := H
  have A3 := Aside0.mk A30
  clear A30
  replace H := Option.bind_eq_some_iff.mp H
  obtain ⟨t350, A40, H⟩ := H
  replace H : (some (wrap64 ((t347.length : Int) - t350))) = some r := H
  have A4 := Aside0.mk A40
  clear A40
  obtain rfl := Option.some.inj H
  go_enter Try.func26, Try.ntmps26
  go_wp2_with (first | ((with_reducible refine gate_callee (f := 84) rfl ?_); refine goesL_ (some 8) rfl rfl Try.func84 (by kernel_rfl) rfl #[.slice A0 l0.length c0, .int .i64 a1] rfl (by (try simp only [List.map_toArray, List.map_cons, List.map_nil]); first | done | rfl | (simp only [List.length_drop, List.length_take]; rfl)) ?_; (with_reducible refine (impl_BestHits.calls k _ _ l0 a1 t347 _ ?side1 ?side2 A3.out).mono ?_); (case side1 => repeat (first | exact HR0.out | (with_reducible refine Kd.C_alloc ?_ _) | (with_reducible refine Kd.C_drewN ?_ _) | (with_reducible refine Kd.C_drew ?_))); (case side2 => exact HC0.out); rintro e w5 ⟨v348, rfl, ho0, hb⟩; refine ⟨_, rfl, ?_⟩; have n0_ := Aside0.mk (Kd.R_lower ho0 (below_size (by repeat (first | (with_reducible first | exact HB.out | apply below_alloc | apply pw_below_drewN | apply below_drew1) | exact HB.out)))); have n1_ := Aside0.mk (below_step (by repeat (first | (with_reducible first | exact HB.out | apply below_alloc | apply pw_below_drewN | apply below_drew1) | exact HB.out)) hb); clear HB; have HO349 := n0_; have HB := n1_; clear n0_ n1_; (try clear hb); (try clear hb2); (try clear hk); (try clear hi); (try clear ho0); obtain ⟨Ao6, co6, eo6⟩ := Kd.R_slice HO349.out; subst eo6) | ((with_reducible refine gate_callee (f := 83) rfl ?_); refine goesL_ (some 12) rfl rfl Try.func83 (by kernel_rfl) rfl #[.slice Ao6 t347.length co6] rfl (by (try simp only [List.map_toArray, List.map_cons, List.map_nil]); first | done | rfl | (simp only [List.length_drop, List.length_take]; rfl)) ?_; (with_reducible refine (impl_hitsIn.calls k _ _ t347 t350 _ ?side1 ?side2 A4.out).mono ?_); (case side1 => repeat (first | exact (Kd.R_reads' HO349.out).2.2 | (with_reducible refine Kd.C_alloc ?_ _) | (with_reducible refine Kd.C_drewN ?_ _) | (with_reducible refine Kd.C_drew ?_))); (case side2 => exact (Kd.R_reads' HO349.out).2.1); rintro e w' ⟨rfl, ⟨nd, rfl⟩⟩; refine ⟨_, rfl, ?_⟩))
  go_ret
  exact ⟨by first | rfl | (simp [errW_none, errW_some] <;> rfl) | (simp [*, errW_none, errW_some] <;> rfl), by repeat (first | (with_reducible first | exact HB.out | apply below_alloc | apply pw_below_drewN | apply below_drew1) | exact HB.out)⟩
end Go.Proofs.Ytkaahabgbngodaa.Core
end
