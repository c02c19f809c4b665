/- Contracts of the program's functions as Lean functions, for FnNone, part 2 (printed by wip/mkprint.py over the kit's print.py; what that refuses is written by hand in wip/manual). -/
import Derived.Test.YtkaahabgbngodaaFnNoneW1
import Derived.Test.YtkaahabgbngodaaFnNoneC1

section
namespace Go.Proofs.Ytkaahabgbngodaa.Core
open Go.RowKit Go.Proofs.YtkaahabgbngodaaW.PrintWords Go.Proofs.YtkaahabgbngodaaW.PrintLast Go.Proofs.YtkaahabgbngodaaW.PrintMore
attribute [local go_sem] max2_int min2_int max_two min_two max_three min_three max_four min_four
set_option linter.unusedVariables false
set_option linter.unusedSimpArgs false
open List renaming setIfInBounds_toArray → lz1, set_cons_zero → lz2, set_cons_succ → lz3
theorem own_elem {w : World} {base n g c : Nat} {xs : List S120} {ok : Nat → Prop} (h : Kd.R k120 120 w base ok (.slice (some ⟨g, 0, none⟩) n c) xs) (k : Nat) (hk : k < xs.length) :
    w.cell? ⟨g, k * 3, none⟩ = some (.string (rd_T120 xs k).f0) ∧ w.cell? ⟨g, k * 3 + 1, none⟩ = some (.string (rd_T120 xs k).f1) ∧ w.cell? ⟨g, k * 3 + 2, none⟩ = some (.int .i64 (rd_T120 xs k).f2) := by
  obtain ⟨hn, _, hC⟩ := Kd.R_reads' h
  obtain ⟨ad, e, h0, h1, h2⟩ := at_T120 hC k (by omega) (by omega)
  injection e with e
  subst e
  simp only [Int.toNat_natCast, add_plain] at h0 h1 h2
  exact ⟨h0, h1, h2⟩
theorem own_form {w : World} {base : Nat} {V : Value} {xs : List S120} {ok : Nat → Prop} (h : Kd.R k120 120 w base ok V xs) (hp : 0 < xs.length) : ∃ g c, V = .slice (some ⟨g, 0, none⟩) xs.length c ∧ xs.length ≤ c ∧ base ≤ g ∧ g < w.heap.size := by
  obtain ⟨_, inner, hown, hr⟩ := h
  rcases hown.2 with ⟨hv, h0⟩ | ⟨g', cap', cur, hv, hb, hh, hc, hcm, hcs, htake⟩
  · omega
  · exact ⟨g', cap', hv, hc, hb, (Array.getElem?_eq_some_iff.1 hh).1⟩
theorem own_put1 {W : World} {base n g c : Nat} {xs : List S120} {ok : Nat → Prop} (h : Kd.R k120 120 W base ok (.slice (some ⟨g, 0, none⟩) n c) xs) (k : Nat) (hk : k < xs.length) (s : ByteArray) :
    Kd.R k120 120 (W.setCell ⟨g, k * 3 + 1, none⟩ (.string s)) base ok (.slice (some ⟨g, 0, none⟩) n c) (xs.set k ⟨(rd_T120 xs k).f0, s, (rd_T120 xs k).f2⟩) ∧ W.grownBy (W.setCell ⟨g, k * 3 + 1, none⟩ (.string s)) (some g) := by
  obtain ⟨h0, h1, h2⟩ := own_elem h k hk
  have hn := (Kd.R_reads' h).1
  have := Kd.R_seg h k (by omega) (by omega) (c := [.string (rd_T120 xs k).f0, .string (rd_T120 xs k).f1, .int .i64 (rd_T120 xs k).f2]) (seg := [.string s]) (j := 1) rfl (fun j u hu => by
    rcases j with _ | _ | _ | j
    · simp at hu; subst hu; exact h0
    · simp at hu; subst hu; exact h1
    · simp at hu; subst hu; exact h2
    · simp at hu) (by show 1 + 1 ≤ 3; omega) (x' := ⟨(rd_T120 xs k).f0, s, (rd_T120 xs k).f2⟩) (okp := fun _ => False) (k120_mkM _ _ _ _) (fun _ h => h.elim)
  exact this
theorem own_put2 {W : World} {base n g c : Nat} {xs : List S120} {ok : Nat → Prop} (h : Kd.R k120 120 W base ok (.slice (some ⟨g, 0, none⟩) n c) xs) (k : Nat) (hk : k < xs.length) (s : Int) :
    Kd.R k120 120 (W.setCell ⟨g, k * 3 + 2, none⟩ (.int .i64 s)) base ok (.slice (some ⟨g, 0, none⟩) n c) (xs.set k ⟨(rd_T120 xs k).f0, (rd_T120 xs k).f1, s⟩) ∧ W.grownBy (W.setCell ⟨g, k * 3 + 2, none⟩ (.int .i64 s)) (some g) := by
  obtain ⟨h0, h1, h2⟩ := own_elem h k hk
  have hn := (Kd.R_reads' h).1
  have := Kd.R_seg h k (by omega) (by omega) (c := [.string (rd_T120 xs k).f0, .string (rd_T120 xs k).f1, .int .i64 (rd_T120 xs k).f2]) (seg := [.int .i64 s]) (j := 2) rfl (fun j u hu => by
    rcases j with _ | _ | _ | j
    · simp at hu; subst hu; exact h0
    · simp at hu; subst hu; exact h1
    · simp at hu; subst hu; exact h2
    · simp at hu) (by show 2 + 1 ≤ 3; omega) (x' := ⟨(rd_T120 xs k).f0, (rd_T120 xs k).f1, s⟩) (okp := fun _ => False) (k120_mkM _ _ _ _) (fun _ h => h.elim)
  exact this
theorem keep_none {w w1 : World} {g : Nat} (h : KeepBut w w1 g none) (row : Option Nat) : KeepBut w w1 g row := ⟨h.1, fun i hi hg _ => h.2 i hi hg (by simp)⟩
def askedRow (kind : Int) (xs : List S120) (k : Nat) : List S120 :=
  if kind = 2 then xs.eraseIdx k ++ [rd_T120 xs k] else if kind = 3 then xs.set k ⟨(rd_T120 xs k).f0, (rd_T120 xs k).f1, 1⟩ else xs
set_option maxHeartbeats 8000000 in
set_option maxRecDepth 100000 in
theorem impl_Row_asked.lru (cap : Int) (g gx c : Nat) (xs : List S120) (k : Nat) (hk : k < xs.length) (base : Nat) (w0 w : World)
    (hB : w.heap[g]? = some (.cells #[.int .i64 2, .int .i64 cap, .slice (some ⟨gx, 0, none⟩) xs.length c] 34 (0, 0))) (hO : Kd.R k120 120 w base (fun _ => True) (.slice (some ⟨gx, 0, none⟩) xs.length c) xs) (HB : Below base w0 w) (hbase : base ≤ w.heap.size) (hg : base ≤ g) (hl : xs.length < 1000000) :
    Calls Try.prog 81 #[.pointer (some ⟨g, 0, none⟩), .int .i64 k] w fun e w' => e = .returned (.tuple #[]) ∧ ∃ V', w'.heap[g]? = some (.cells #[.int .i64 2, .int .i64 cap, V'] 34 (0, 0)) ∧ Kd.R k120 120 w' base (fun _ => True) V' (askedRow 2 xs k) ∧ Below base w0 w' ∧ KeepBut w w' g (some gx) := by
  obtain ⟨x0, x1, x2⟩ := own_elem hO k hk
  have c0 : w.cell? ⟨g, 0, none⟩ = some (.int .i64 2) := (blk_cell hB 0).trans rfl
  have c1 : w.cell? ⟨g, 1, none⟩ = some (.int .i64 cap) := (blk_cell hB 1).trans rfl
  have c2 : w.cell? ⟨g, 2, none⟩ = some (.slice (some ⟨gx, 0, none⟩) xs.length c) := (blk_cell hB 2).trans rfl
  have HBK := Aside0.mk hB
  have HO := Aside0.mk hO
  have HB0 := Aside0.mk HB
  clear hB hO HB
  go_enter Try.func81, Try.ntmps81
  go_wp2
  obtain ⟨m, hm⟩ : ∃ m, xs.length = m + 1 := ⟨xs.length - 1, by omega⟩
  have HBX := Aside0.mk (blk_new w (.cells #[.string (rd_T120 xs k).f0, .string (rd_T120 xs k).f1, .int .i64 (rd_T120 xs k).f2] 120))
  have HBK1 := Aside0.mk (blk_alloc HBK.out (.cells #[.string (rd_T120 xs k).f0, .string (rd_T120 xs k).f1, .int .i64 (rd_T120 xs k).f2] 120))
  have HO1 := Aside0.mk (Kd.R_alloc HO.out (.cells #[.string (rd_T120 xs k).f0, .string (rd_T120 xs k).f1, .int .i64 (rd_T120 xs k).f2] 120))
  have HB1 := Aside0.mk (HB0.out.alloc hbase (.cells #[.string (rd_T120 xs k).f0, .string (rd_T120 xs k).f1, .int .i64 (rd_T120 xs k).f2] 120))
  have HW := Aside0.mk (below_alloc (Below.refl w.heap.size w) (.cells #[.string (rd_T120 xs k).f0, .string (rd_T120 xs k).f1, .int .i64 (rd_T120 xs k).f2] 120))
  clear c0 c1 c2 x0 x1 x2
  have HNE := Aside0.mk (Kd.R_ne HO1.out HBK1.out (by decide))
  have HNX := Aside0.mk (show gx < w.heap.size by have := Kd.R_lt HO.out gx (by simp [Value.ownBlock]); exact this)
  generalize hbx : w.heap.size = bx at *
  generalize w.alloc (.cells #[.string (rd_T120 xs k).f0, .string (rd_T120 xs k).f1, .int .i64 (rd_T120 xs k).f2] 120) = W at *
  have HBX2 := Aside0.mk hbx
  clear hbx
  have s0 : W.cell? ⟨g, 2, none⟩ = some (.slice (some ⟨gx, 0, none⟩) xs.length c) := (blk_cell HBK1.out 2).trans rfl
  have s1 : W.cell? ⟨bx, 0, none⟩ = some (.string (rd_T120 xs k).f0) := (blk_cell HBX.out 0).trans rfl
  have s2 : W.cell? ⟨bx, 1, none⟩ = some (.string (rd_T120 xs k).f1) := (blk_cell HBX.out 1).trans rfl
  have s3 : W.cell? ⟨bx, 2, none⟩ = some (.int .i64 (rd_T120 xs k).f2) := (blk_cell HBX.out 2).trans rfl
  rw [hm] at s0
  have HO2 : Aside0 (Kd.R k120 120 W base (fun _ => True) (.slice (some ⟨gx, 0, none⟩) (m + 1) c) xs) := Aside0.mk (by have := HO1.out; rw [hm] at this; exact this)
  have hke : (rd_T120 xs k).f0 = (rd_T120 xs k).f0 := rfl
  have hbW : bx < W.heap.size := blk_lt HBX.out
  have hgW : g < W.heap.size := blk_lt HBK1.out
  have HWR := Aside0.mk (show wrap64 ((k : Int) + 1) = (k : Int) + 1 by unfold wrap64; omega)
  have HKL := Aside0.mk (And.intro hk hl)
  have HBW : Aside0 (base ≤ W.heap.size) := ⟨by omega⟩
  have HM := Aside0.mk hm
  have NGX := Aside0.mk (show some g ≠ some gx from HNE.out)
  have NBX := Aside0.mk (show some bx ≠ some gx by have := HNX.out; intro h; injection h; omega)
  rw [hm]
  clear hm hke hbW hgW hk hl
  have NWX := Aside0.mk (show some W.drew.heap.size ≠ some gx by intro h; injection h with h; have := HNX.out; have := blk_lt HBX.out; simp at h; omega)
  refine start_ (n := 15) (S := fun w' => w'.cell? ⟨g, 2, none⟩ = some (.slice (some ⟨gx, 0, none⟩) (m + 1) c) ∧ w'.cell? ⟨bx, 0, none⟩ = some (.string (rd_T120 xs k).f0) ∧ w'.cell? ⟨bx, 1, none⟩ = some (.string (rd_T120 xs k).f1) ∧ w'.cell? ⟨bx, 2, none⟩ = some (.int .i64 (rd_T120 xs k).f2)) (ds := [14]) #[false, false, false, false, false, false, false, false, false, false, false, false, false, false, false] (by kernel_rfl) rfl rfl ⟨s0, s1, s2, s3⟩ (fun hHeld => ?_)
  clear s0 s1 s2 s3
  refine pure_ (i := 0) (N := some 18) (v := ?_) (a' := ?_) #[true, false, false, false, false, false, false, false, false, false, false, false, false, false, false] rfl rfl (by kernel_rfl) (fun _ _ _ h => h) (Or.inl ⟨by rfl, ?_⟩) ?_ ?_
  rotate_left
  · intro w'
    go_simp
    with_reducible rfl
  rotate_left
  · simp only [Act.put, lz1, lz2, lz3, i64_w, i32_w]
    rfl
  refine pure_ (i := 1) (N := some 19) (v := ?_) (a' := ?_) #[true, true, false, false, false, false, false, false, false, false, false, false, false, false, false] rfl rfl (by kernel_rfl) (fun _ _ _ h => h) (Or.inl ⟨by rfl, ?_⟩) ?_ ?_
  rotate_left
  · intro w'
    go_simp
    with_reducible rfl
  rotate_left
  · simp only [Act.put, lz1, lz2, lz3, i64_w, i32_w]
    rfl
  refine pure_ (i := 2) (N := some 20) (v := ?_) (a' := ?_) #[true, true, true, false, false, false, false, false, false, false, false, false, false, false, false] rfl rfl (by kernel_rfl) (fun _ _ _ h => h) (Or.inl ⟨by rfl, ?_⟩) ?_ ?_
  rotate_left
  · intro w'
    go_simp
    with_reducible rfl
  rotate_left
  · simp only [Act.put, lz1, lz2, lz3, i64_w, i32_w]
    rfl
  refine pure_ (i := 3) (N := some 21) (v := ?_) (a' := ?_) #[true, true, true, true, false, false, false, false, false, false, false, false, false, false, false] rfl rfl (by kernel_rfl) (fun _ _ _ h => h) (Or.inl ⟨by rfl, ?_⟩) ?_ ?_
  rotate_left
  · intro w'
    go_simp
    with_reducible rfl
  rotate_left
  · simp only [Act.put, lz1, lz2, lz3, i64_w, i32_w]
    rfl
  refine take_ (i := 4) (N := some 22) (v := ?_) (a' := ?_) #[true, true, true, true, true, false, false, false, false, false, false, false, false, false, false] rfl rfl (by kernel_rfl) (fun _ _ _ h => h) (Or.inl ⟨by rfl, ?_⟩) hHeld ?_ ?_
  rotate_left
  · rintro w' ⟨s0, s1, s2, s3⟩
    go_simp
    with_reducible rfl
  rotate_left
  · simp only [Act.put, lz1, lz2, lz3, i64_w, i32_w]
    rfl
  refine pure_ (i := 5) (N := some 23) (v := ?_) (a' := ?_) #[true, true, true, true, true, true, false, false, false, false, false, false, false, false, false] rfl rfl (by kernel_rfl) (fun _ _ _ h => h) (Or.inl ⟨by rfl, ?_⟩) ?_ ?_
  rotate_left
  · intro w'
    go_simp
    with_reducible rfl
  rotate_left
  · simp only [Act.put, lz1, lz2, lz3, i64_w, i32_w]
    rfl
  refine pure_ (i := 6) (N := some 24) (v := ?_) (a' := ?_) #[true, true, true, true, true, true, true, false, false, false, false, false, false, false, false] rfl rfl (by kernel_rfl) (fun _ _ _ h => h) (Or.inl ⟨by rfl, ?_⟩) ?_ ?_
  rotate_left
  · intro w'
    go_simp
    with_reducible rfl
  rotate_left
  · simp only [Act.put, lz1, lz2, lz3, i64_w, i32_w]
    rfl
  refine pure_ (i := 7) (N := some 25) (v := ?_) (a' := ?_) #[true, true, true, true, true, true, true, true, false, false, false, false, false, false, false] rfl rfl (by kernel_rfl) (fun _ _ _ h => h) (Or.inl ⟨by rfl, ?_⟩) ?_ ?_
  rotate_left
  · intro w'
    go_simp
    with_reducible rfl
  rotate_left
  · simp only [Act.put, lz1, lz2, lz3, i64_w, i32_w]
    rfl
  refine take_ (i := 9) (N := some 27) (v := ?_) (a' := ?_) #[true, true, true, true, true, true, true, true, false, true, false, false, false, false, false] rfl rfl (by kernel_rfl) (fun _ _ _ h => h) (Or.inl ⟨by rfl, ?_⟩) hHeld ?_ ?_
  rotate_left
  · rintro w' ⟨s0, s1, s2, s3⟩
    go_simp
    with_reducible rfl
  rotate_left
  · simp only [Act.put, lz1, lz2, lz3, i64_w, i32_w]
    rfl
  refine two_ (i := 8) (j := 10) (Ni := some 26) (Nj := some 28) #[true, true, true, true, true, true, true, true, true, true, false, false, false, false, false] #[true, true, true, true, true, true, true, true, false, true, true, false, false, false, false] rfl rfl rfl rfl (by kernel_rfl) (by decide) (by decide) (fun K hK => ?_) (fun K hK => ?_)
  · refine goes_ Try.func141 (by kernel_rfl) rfl #[.slice (some ⟨gx, 0, none⟩) (m + 1) c, .int .i64 k, .int .i64 (wrap64 (k + 1))] (by rfl) rfl rfl (by (try simp only [List.map_toArray, List.map_cons, List.map_nil]); first | done | rfl) ?_
    rw [HWR.out]
    refine (slices_Delete_Item.mine gx m c k base xs (fun _ => True) w0 _ (Kd.R_drew HO2.out) (by have := HM.out; have := HKL.out.1; omega) HB1.out.drew HBW.out).mono ?_
    rintro e w1 ⟨rfl, ho, hb, hgr⟩
    refine ⟨_, rfl, ?_⟩
    have BK2 := Aside0.mk (blk_grown (blk_drew HBK1.out) hgr NGX.out)
    have BX2 := Aside0.mk (blk_grown (blk_drew HBX.out) hgr NBX.out)
    refine hK.out _ _ ⟨(blk_cell BK2.out 2).trans (by rw [HM.out]; rfl), (blk_cell BX2.out 0).trans rfl, (blk_cell BX2.out 1).trans rfl, (blk_cell BX2.out 2).trans rfl⟩ (fun hHeld => ?_)
    clear hK K
    refine norm_ (a' := ?_) ?_ ?_
    rotate_left
    · show Act.put _ (some 26) _ = _
      simp only [Act.put, lz1, lz2, lz3, i64_w, i32_w]
      rfl
    refine one_ (i := 10) (N := some 28) #[true, true, true, true, true, true, true, true, true, true, true, false, false, false, false] rfl rfl (by kernel_rfl) (by decide) (fun K hK => ?_)
    refine Kd.R_lit_step k120 (w0 := w0) base 120 rfl (N := 28) rfl (xs := [rd_T120 xs k]) (inner := [.string (rd_T120 xs k).f0, .string (rd_T120 xs k).f1, .int .i64 (rd_T120 xs k).f2]) (ok := fun _ => True) (okp := fun _ => True) ?hr (Reps.c3 (k120_mkM _ _ _ (rd_T120 xs k)) (Reps.none _ _)) (fun _ hk => hk) trivial hb (Nat.le_trans HBW.out hgr.size) (by simp) (fun v2 w2 ho2 hb2 hg2 hn2 => ?_)
    (case hr => first | (go_simp; done) | (go_simp; rfl))
    have BK3 := Aside0.mk (blk_grown BK2.out hg2 (by simp))
    have BX3 := Aside0.mk (blk_grown BX2.out hg2 (by simp))
    have HO3 := Aside0.mk (Kd.R_grown ho hg2 (fun _ _ => by simp))
    obtain ⟨A2, c2, rfl⟩ := Kd.R_slice ho2
    refine hK.out _ _ ⟨(blk_cell BK3.out 2).trans (by rw [HM.out]; rfl), (blk_cell BX3.out 0).trans rfl, (blk_cell BX3.out 1).trans rfl, (blk_cell BX3.out 2).trans rfl⟩ (fun hHeld => ?_)
    clear hK K
    refine norm_ (a' := ?_) ?_ ?_
    rotate_left
    · show Act.put _ (some 28) _ = _
      simp only [Act.put, lz1, lz2, lz3, i64_w, i32_w]
      rfl
    refine one_ (i := 11) (N := some 29) #[true, true, true, true, true, true, true, true, true, true, true, true, false, false, false] rfl rfl (by kernel_rfl) (by decide) (fun K hK => ?_)
    refine Kd.R_append_rows_step k120 (Rr := k120.K w2) (w0 := w0) base rfl (.tmp 26) (.tmp 28) 32 120 (.agg #[(.string ⟨#[]⟩), (.string ⟨#[]⟩), (.int .i64 0)]) 40 rfl Try.underlying32 info120 rfl (by decide) (by omega) (.slice (some ⟨gx, 0, none⟩) m c) (xs.eraseIdx k) [rd_T120 xs k] _ _ _ (fun _ => True) (fun _ => False) rfl rfl HO3.out (Kd.R_reads' ho2).2.2 (fun _ _ h => h) (fun _ h => h.elim) (fun _ _ => trivial) hb2 (by exact Nat.le_trans (Nat.le_trans HBW.out hgr.size) hg2.size) ?_ (fun v1 w3 ho3 hb3 hg3 hat3 => ?_)
    · have := HKL.out
      rw [List.length_eraseIdx]
      simp
      split <;> omega
    refine hK.out _ _ ⟨(blk_cell (blk_grown BK3.out hg3 NGX.out) 2).trans (by rw [HM.out]; rfl), (blk_cell (blk_grown BX3.out hg3 NBX.out) 0).trans rfl, (blk_cell (blk_grown BX3.out hg3 NBX.out) 1).trans rfl, (blk_cell (blk_grown BX3.out hg3 NBX.out) 2).trans rfl⟩ (fun hHeld => ?_)
    clear hK K
    obtain ⟨A3, c3, rfl⟩ := Kd.R_slice ho3
    refine norm_ (a' := ?_) ?_ ?_
    rotate_left
    · show Act.put _ (some 29) _ = _
      simp only [Act.put, lz1, lz2, lz3, i64_w, i32_w]
      rfl
    refine pure_ (i := 12) (N := some 30) (v := ?_) (a' := ?_) #[true, true, true, true, true, true, true, true, true, true, true, true, true, false, false] rfl rfl (by kernel_rfl) (fun _ _ _ h => h) (Or.inl ⟨by rfl, ?_⟩) ?_ ?_
    rotate_left
    · intro w'
      go_simp
      with_reducible rfl
    rotate_left
    · simp only [Act.put, lz1, lz2, lz3, i64_w, i32_w]
      rfl
    refine pure_ (i := 13) (N := some 31) (v := ?_) (a' := ?_) #[true, true, true, true, true, true, true, true, true, true, true, true, true, true, false] rfl rfl (by kernel_rfl) (fun _ _ _ h => h) (Or.inl ⟨by rfl, ?_⟩) ?_ ?_
    rotate_left
    · intro w'
      go_simp
      with_reducible rfl
    rotate_left
    · simp only [Act.put, lz1, lz2, lz3, i64_w, i32_w]
      rfl
    refine last_ (i := 14) (N := none) #[true, true, true, true, true, true, true, true, true, true, true, true, true, true, true] rfl rfl (by kernel_rfl) (by decide) (fun K hK => ?_)
    have BK4 := Aside0.mk (blk_grown BK3.out hg3 NGX.out)
    have s2 : w3.cell? ⟨g, 2, none⟩ = some (.slice (some ⟨gx, 0, none⟩) xs.length c) := (blk_cell BK4.out 2).trans rfl
    have f2 : w3.frozen? ⟨g, 2, none⟩ = false := blk_frozen BK4.out 2
    refine skip_ rfl rfl (w1 := w3.setCell ⟨g, 2, none⟩ (.slice A3 (xs.eraseIdx k ++ [rd_T120 xs k]).length c3)) (by go_simp) ?_
    refine hK.out _ _ ?_
    clear hK K
    refine done_ (by kernel_rfl) ?_
    have ho4 := Aside0.mk ho3
    have hb4 := Aside0.mk hb3
    have hk4 : Aside0 (KeepBut w w3 g (some gx)) := ⟨KeepBut.trans (KeepBut.trans (KeepBut.trans (KeepBut.of_below (show Below w.heap.size w W.drew from HBX2.out ▸ HW.out.drew) g (some gx)) (KeepBut.of_grown hgr g) (.inl rfl)) (keep_none (KeepBut.of_grown hg2 g) (some gx)) (.inl rfl)) (KeepBut.of_grown hg3 g) (.inl rfl)⟩
    clear s2 f2 ho3 hb3 hg3 hat3
    go_wp2
    go_end0
    have hae : askedRow 2 xs k = xs.eraseIdx k ++ [rd_T120 xs k] := by simp [askedRow]
    refine ⟨rfl, _, blk_put BK4.out 2 _ rfl, ?_, hb4.out.setCell (by exact hg) _, hk4.out.set_ 2 _⟩
    rw [hae]
    exact Kd.R_set ho4.out BK4.out (by decide) 2 _
  · refine Kd.R_lit_step k120 (w0 := w0) base 120 rfl (N := 28) rfl (xs := [rd_T120 xs k]) (inner := [.string (rd_T120 xs k).f0, .string (rd_T120 xs k).f1, .int .i64 (rd_T120 xs k).f2]) (ok := fun b => some b ≠ some gx) (okp := fun b => some b ≠ some gx) ?hr (Reps.c3 (k120_mkM _ _ _ (rd_T120 xs k)) (Reps.none _ _)) (fun _ hk => hk) (show some W.drew.heap.size ≠ some gx from NWX.out) HB1.out.drew HBW.out (by simp) (fun v2 w2 ho2 hb2 hg2 hn2 => ?_)
    (case hr => first | (go_simp; done) | (go_simp; rfl))
    have BK2 := Aside0.mk (blk_grown (blk_drew HBK1.out) hg2 (by simp))
    have BX2 := Aside0.mk (blk_grown (blk_drew HBX.out) hg2 (by simp))
    have HO3 := Aside0.mk (Kd.R_grown (Kd.R_drew HO2.out) hg2 (fun _ _ => by simp))
    obtain ⟨A2, c2, rfl⟩ := Kd.R_slice ho2
    refine hK.out _ _ ⟨(blk_cell BK2.out 2).trans (by rw [HM.out]; rfl), (blk_cell BX2.out 0).trans rfl, (blk_cell BX2.out 1).trans rfl, (blk_cell BX2.out 2).trans rfl⟩ (fun hHeld => ?_)
    clear hK K
    refine norm_ (a' := ?_) ?_ ?_
    rotate_left
    · show Act.put _ (some 28) _ = _
      simp only [Act.put, lz1, lz2, lz3, i64_w, i32_w]
      rfl
    refine one_ (i := 8) (N := some 26) #[true, true, true, true, true, true, true, true, true, true, true, false, false, false, false] rfl rfl (by kernel_rfl) (by decide) (fun K hK => ?_)
    refine goes_ Try.func141 (by kernel_rfl) rfl #[.slice (some ⟨gx, 0, none⟩) (m + 1) c, .int .i64 k, .int .i64 (wrap64 (k + 1))] (by rfl) rfl rfl (by (try simp only [List.map_toArray, List.map_cons, List.map_nil]); first | done | rfl) ?_
    rw [HWR.out]
    refine (slices_Delete_Item.mine gx m c k base xs (fun _ => True) w0 _ HO3.out (by have := HM.out; have := HKL.out.1; omega) hb2 (Nat.le_trans HBW.out hg2.size)).mono ?_
    rintro e w1 ⟨rfl, ho, hb, hgr⟩
    refine ⟨_, rfl, ?_⟩
    have BK3 := Aside0.mk (blk_grown BK2.out hgr NGX.out)
    have BX3 := Aside0.mk (blk_grown BX2.out hgr NBX.out)
    have HL2 := Aside0.mk (Kd.R_grown ho2 hgr (fun _ hk => hk))
    refine hK.out _ _ ⟨(blk_cell BK3.out 2).trans (by rw [HM.out]; rfl), (blk_cell BX3.out 0).trans rfl, (blk_cell BX3.out 1).trans rfl, (blk_cell BX3.out 2).trans rfl⟩ (fun hHeld => ?_)
    clear hK K
    refine norm_ (a' := ?_) ?_ ?_
    rotate_left
    · show Act.put _ (some 26) _ = _
      simp only [Act.put, lz1, lz2, lz3, i64_w, i32_w]
      rfl
    refine one_ (i := 11) (N := some 29) #[true, true, true, true, true, true, true, true, true, true, true, true, false, false, false] rfl rfl (by kernel_rfl) (by decide) (fun K hK => ?_)
    refine Kd.R_append_rows_step k120 (Rr := k120.K w1) (w0 := w0) base rfl (.tmp 26) (.tmp 28) 32 120 (.agg #[(.string ⟨#[]⟩), (.string ⟨#[]⟩), (.int .i64 0)]) 40 rfl Try.underlying32 info120 rfl (by decide) (by omega) (.slice (some ⟨gx, 0, none⟩) m c) (xs.eraseIdx k) [rd_T120 xs k] _ _ _ (fun _ => True) (fun _ => False) rfl rfl ho (Kd.R_reads' HL2.out).2.2 (fun _ _ h => h) (fun _ h => h.elim) (fun _ _ => trivial) hb (by exact Nat.le_trans (Nat.le_trans HBW.out hg2.size) hgr.size) ?_ (fun v1 w3 ho3 hb3 hg3 hat3 => ?_)
    · have := HKL.out
      rw [List.length_eraseIdx]
      simp
      split <;> omega
    refine hK.out _ _ ⟨(blk_cell (blk_grown BK3.out hg3 NGX.out) 2).trans (by rw [HM.out]; rfl), (blk_cell (blk_grown BX3.out hg3 NBX.out) 0).trans rfl, (blk_cell (blk_grown BX3.out hg3 NBX.out) 1).trans rfl, (blk_cell (blk_grown BX3.out hg3 NBX.out) 2).trans rfl⟩ (fun hHeld => ?_)
    clear hK K
    obtain ⟨A3, c3, rfl⟩ := Kd.R_slice ho3
    refine norm_ (a' := ?_) ?_ ?_
    rotate_left
    · show Act.put _ (some 29) _ = _
      simp only [Act.put, lz1, lz2, lz3, i64_w, i32_w]
      rfl
    refine pure_ (i := 12) (N := some 30) (v := ?_) (a' := ?_) #[true, true, true, true, true, true, true, true, true, true, true, true, true, false, false] rfl rfl (by kernel_rfl) (fun _ _ _ h => h) (Or.inl ⟨by rfl, ?_⟩) ?_ ?_
    rotate_left
    · intro w'
      go_simp
      with_reducible rfl
    rotate_left
    · simp only [Act.put, lz1, lz2, lz3, i64_w, i32_w]
      rfl
    refine pure_ (i := 13) (N := some 31) (v := ?_) (a' := ?_) #[true, true, true, true, true, true, true, true, true, true, true, true, true, true, false] rfl rfl (by kernel_rfl) (fun _ _ _ h => h) (Or.inl ⟨by rfl, ?_⟩) ?_ ?_
    rotate_left
    · intro w'
      go_simp
      with_reducible rfl
    rotate_left
    · simp only [Act.put, lz1, lz2, lz3, i64_w, i32_w]
      rfl
    refine last_ (i := 14) (N := none) #[true, true, true, true, true, true, true, true, true, true, true, true, true, true, true] rfl rfl (by kernel_rfl) (by decide) (fun K hK => ?_)
    have BK4 := Aside0.mk (blk_grown BK3.out hg3 NGX.out)
    have s2 : w3.cell? ⟨g, 2, none⟩ = some (.slice (some ⟨gx, 0, none⟩) xs.length c) := (blk_cell BK4.out 2).trans rfl
    have f2 : w3.frozen? ⟨g, 2, none⟩ = false := blk_frozen BK4.out 2
    refine skip_ rfl rfl (w1 := w3.setCell ⟨g, 2, none⟩ (.slice A3 (xs.eraseIdx k ++ [rd_T120 xs k]).length c3)) (by go_simp) ?_
    refine hK.out _ _ ?_
    clear hK K
    refine done_ (by kernel_rfl) ?_
    have ho4 := Aside0.mk ho3
    have hb4 := Aside0.mk hb3
    have hk4 : Aside0 (KeepBut w w3 g (some gx)) := ⟨KeepBut.trans (KeepBut.trans (KeepBut.trans (KeepBut.of_below (show Below w.heap.size w W.drew from HBX2.out ▸ HW.out.drew) g (some gx)) (keep_none (KeepBut.of_grown hg2 g) (some gx)) (.inl rfl)) (KeepBut.of_grown hgr g) (.inl rfl)) (KeepBut.of_grown hg3 g) (.inl rfl)⟩
    clear s2 f2 ho3 hb3 hg3 hat3
    go_wp2
    go_end0
    have hae : askedRow 2 xs k = xs.eraseIdx k ++ [rd_T120 xs k] := by simp [askedRow]
    refine ⟨rfl, _, blk_put BK4.out 2 _ rfl, ?_, hb4.out.setCell (by exact hg) _, hk4.out.set_ 2 _⟩
    rw [hae]
    exact Kd.R_set ho4.out BK4.out (by decide) 2 _
set_option maxHeartbeats 8000000 in
set_option maxRecDepth 100000 in
theorem impl_Row_asked.clock (cap : Int) (g gx c : Nat) (xs : List S120) (k : Nat) (hk : k < xs.length) (base : Nat) (w0 w : World)
    (hB : w.heap[g]? = some (.cells #[.int .i64 3, .int .i64 cap, .slice (some ⟨gx, 0, none⟩) xs.length c] 34 (0, 0))) (hO : Kd.R k120 120 w base (fun _ => True) (.slice (some ⟨gx, 0, none⟩) xs.length c) xs) (HB : Below base w0 w) :
    Calls Try.prog 81 #[.pointer (some ⟨g, 0, none⟩), .int .i64 k] w fun e w' => e = .returned (.tuple #[]) ∧ ∃ V', w'.heap[g]? = some (.cells #[.int .i64 3, .int .i64 cap, V'] 34 (0, 0)) ∧ Kd.R k120 120 w' base (fun _ => True) V' (askedRow 3 xs k) ∧ Below base w0 w' ∧ KeepBut w w' g (some gx) := by
  obtain ⟨x0, x1, x2⟩ := own_elem hO k hk
  have hput := own_put2 hO k hk 1
  have c0 : w.cell? ⟨g, 0, none⟩ = some (.int .i64 3) := (blk_cell hB 0).trans rfl
  have c1 : w.cell? ⟨g, 1, none⟩ = some (.int .i64 cap) := (blk_cell hB 1).trans rfl
  have c2 : w.cell? ⟨g, 2, none⟩ = some (.slice (some ⟨gx, 0, none⟩) xs.length c) := (blk_cell hB 2).trans rfl
  have hne : g ≠ gx := fun h => Kd.R_ne hO hB (by decide) (by rw [h]; rfl)
  have hbx : base ≤ gx := Kd.R_base hO gx rfl
  have hfz : w.frozen? ⟨gx, k * 3 + 2, none⟩ = false := by
    obtain ⟨cur, hh, _⟩ := own_cells hO
    exact blk_frozen hh _
  have HP := Aside0.mk hput
  have HBK := Aside0.mk hB
  have HB0 := Aside0.mk HB
  clear hB hO HB hput
  go_enter Try.func81, Try.ntmps81
  go_wp2
  go_end0
  have hae : askedRow 3 xs k = xs.set k ⟨(rd_T120 xs k).f0, (rd_T120 xs k).f1, 1⟩ := by simp [askedRow]
  refine ⟨rfl, _, blk_far HBK.out hne _, ?_, HB0.out.setCell (by exact hbx) _, KeepBut.of_grown HP.out.2 g⟩
  rw [hae]
  exact HP.out.1
set_option maxHeartbeats 8000000 in
set_option maxRecDepth 100000 in
theorem impl_Row_asked.fifo (kind cap : Int) (V : Value) (g : Nat) (xs : List S120) (k : Nat) (base : Nat) (w0 w : World) (h2 : kind ≠ 2) (h3 : kind ≠ 3)
    (hB : w.heap[g]? = some (.cells #[.int .i64 kind, .int .i64 cap, V] 34 (0, 0))) (hO : Kd.R k120 120 w base (fun _ => True) V xs) (HB : Below base w0 w) :
    Calls Try.prog 81 #[.pointer (some ⟨g, 0, none⟩), .int .i64 k] w fun e w' => e = .returned (.tuple #[]) ∧ ∃ V', w'.heap[g]? = some (.cells #[.int .i64 kind, .int .i64 cap, V'] 34 (0, 0)) ∧ Kd.R k120 120 w' base (fun _ => True) V' (askedRow kind xs k) ∧ Below base w0 w' ∧ KeepBut w w' g V.ownBlock := by
  have c0 : w.cell? ⟨g, 0, none⟩ = some (.int .i64 kind) := (blk_cell hB 0).trans rfl
  have HBK := Aside0.mk hB
  have HB0 := Aside0.mk HB
  have HO := Aside0.mk hO
  have H2 := Aside0.mk (And.intro h2 h3)
  have e2 : (kind == 2) = false := beq_eq_false_iff_ne.mpr h2
  have e3 : (kind == 3) = false := beq_eq_false_iff_ne.mpr h3
  clear hB hO HB h2 h3
  go_enter Try.func81, Try.ntmps81
  go_wp2
  go_end0
  have hae : askedRow kind xs k = xs := by unfold askedRow; rw [if_neg H2.out.1, if_neg H2.out.2]
  exact ⟨rfl, V, HBK.out, by rw [hae]; exact HO.out, HB0.out, KeepBut.refl _ _ _⟩
theorem impl_Row_asked.mine (kind cap : Int) (g : Nat) (V : Value) (xs : List S120) (k : Nat) (hk : k < xs.length) (base : Nat) (w0 w : World)
    (hB : w.heap[g]? = some (.cells #[.int .i64 kind, .int .i64 cap, V] 34 (0, 0))) (hO : Kd.R k120 120 w base (fun _ => True) V xs) (HB : Below base w0 w) (hbase : base ≤ w.heap.size) (hg : base ≤ g) (hl : xs.length < 1000000) :
    Calls Try.prog 81 #[.pointer (some ⟨g, 0, none⟩), .int .i64 k] w fun e w' => e = .returned (.tuple #[]) ∧ ∃ V', w'.heap[g]? = some (.cells #[.int .i64 kind, .int .i64 cap, V'] 34 (0, 0)) ∧ Kd.R k120 120 w' base (fun _ => True) V' (askedRow kind xs k) ∧ Below base w0 w' ∧ KeepBut w w' g V.ownBlock := by
  by_cases h2 : kind = 2
  · subst h2
    obtain ⟨gx, c, rfl, _⟩ := own_form hO (by omega)
    exact impl_Row_asked.lru cap g gx c xs k hk base w0 w hB hO HB hbase hg hl
  · by_cases h3 : kind = 3
    · subst h3
      obtain ⟨gx, c, rfl, _⟩ := own_form hO (by omega)
      exact impl_Row_asked.clock cap g gx c xs k hk base w0 w hB hO HB
    · exact impl_Row_asked.fifo kind cap V g xs k base w0 w h2 h3 hB hO HB
def impl_RowGet.f (k : Nat) (a0_0 a0_1 : Int) (l0_2 : List S120) (a1 : ByteArray) : Option (Int × Int × List S120 × ByteArray × Bool) :=
  if l0_2.length < 1000000 then
    (impl_RowOk.f k a0_0 a0_1 l0_2).bind fun ok =>
      if ok = true then (if ixOf l0_2 a1 < 0 then some (a0_0, a0_1, l0_2, (⟨#[]⟩ : ByteArray), false) else some (a0_0, a0_1, askedRow a0_0 l0_2 (ixOf l0_2 a1).toNat, (rd_T120 l0_2 (ixOf l0_2 a1)).f1, true))
      else some (0, 0, [], (⟨#[]⟩ : ByteArray), false)
  else none
theorem impl_RowGet.mono : ∀ a0 a1 a2 a3 k, LeO (impl_RowGet.f k a0 a1 a2 a3) (impl_RowGet.f (k + 1) a0 a1 a2 a3) := by
  intro a0 a1 a2 a3 k
  unfold impl_RowGet.f
  refine LeO.ite (LeO.bind (impl_RowOk.mono _ _ _ _) (fun _ => LeO.refl _)) (LeO.refl _)
theorem ixOf_pos (l : List S120) (key : ByteArray) (h : ¬ ixOf l key < 0) : ∃ i : Nat, ixOf l key = i ∧ i < l.length ∧ keyAt key (rd_T120 l i) = true := by
  unfold ixOf at h ⊢
  split at h
  · rename_i i hi
    rw [List.findIdx?_eq_some_iff_getElem] at hi
    obtain ⟨hl, hp, _⟩ := hi
    exact ⟨i, rfl, hl, by simpa [rd_T120, List.getD_eq_getElem?_getD, List.getElem?_eq_getElem hl] using hp⟩
  · omega
theorem cells3 {w : World} {g t : Nat} {a b c : Value} (h : w.heap[g]? = some (.cells #[a, b, c] t (0, 0))) : (w.cell? ⟨g, 0, none⟩ = some a ∧ w.cell? ⟨g, 1, none⟩ = some b ∧ w.cell? ⟨g, 2, none⟩ = some c) ∧ w.frozen? ⟨g, 0, none⟩ = false ∧ w.frozen? ⟨g, 1, none⟩ = false ∧ w.frozen? ⟨g, 2, none⟩ = false :=
  ⟨⟨(blk_cell h 0).trans rfl, (blk_cell h 1).trans rfl, (blk_cell h 2).trans rfl⟩, blk_frozen h 0, blk_frozen h 1, blk_frozen h 2⟩
theorem put3 {w : World} {g t : Nat} {a b c : Value} (h : w.heap[g]? = some (.cells #[a, b, c] t (0, 0))) (x y z : Value) : (((w.setCell ⟨g, 0, none⟩ x).setCell ⟨g, 1, none⟩ y).setCell ⟨g, 2, none⟩ z).heap[g]? = some (.cells #[x, y, z] t (0, 0)) :=
  blk_put (blk_put (blk_put h 0 x rfl) 1 y rfl) 2 z rfl
theorem below_put3 {w W : World} {g : Nat} (h : Below w.heap.size w W) (hg : w.heap.size ≤ g) (x y z : Value) : Below w.heap.size w (((W.setCell ⟨g, 0, none⟩ x).setCell ⟨g, 1, none⟩ y).setCell ⟨g, 2, none⟩ z) := below_set (below_set (below_set h hg) hg) hg
theorem far_cell3 {w : World} {g : Nat} {p : Addr} {v : Option Value} (h : w.cell? p = v) (hne : p.block ≠ g) (x y z : Value) : (((w.setCell ⟨g, 0, none⟩ x).setCell ⟨g, 1, none⟩ y).setCell ⟨g, 2, none⟩ z).cell? p = v := by
  rw [← h]
  refine World.cell?_of_block ?_
  rw [Below.heap_setCell _ _ _ _ hne, Below.heap_setCell _ _ _ _ hne, Below.heap_setCell _ _ _ _ hne]
theorem R_put3 {w : World} {base : Nat} {ok : Nat → Prop} {V : Value} {xs : List S120} {g : Nat} {cs : Array Value} {t : Nat} (h : Kd.R k120 120 w base ok V xs) (hb : w.heap[g]? = some (.cells cs t (0, 0))) (ht : 120 ≠ t) (x y z : Value) : Kd.R k120 120 (((w.setCell ⟨g, 0, none⟩ x).setCell ⟨g, 1, none⟩ y).setCell ⟨g, 2, none⟩ z) base ok V xs := by
  have hE : ∀ q, q ∈ 120 :: k120.E → q ≠ t := fun q hq => by
    have : q = 120 := by simpa [k120, Kd.iso, Kd.pair, Kd.string, Kd.int, Kd.scalar] using hq
    omega
  exact Kd.R_set (Kd.R_set (Kd.R_set h hb hE 0 x) (blk_set hb 0 x) hE 1 y) (blk_set (blk_set hb 0 x) 1 y) hE 2 z
set_option maxHeartbeats 8000000 in
set_option maxRecDepth 100000 in
theorem impl_RowGet.calls (k : Nat) (a0_0 a0_1 : Int) (A0_2 : Option Addr) (c0_2 : Nat) (l0_2 : List S120) (a1 : ByteArray) (r1 r2 : Int) (r3 : List S120) (r4 : ByteArray) (r5 : Bool) (w : World) (hr0_2 : Kd.C k120 w A0_2 l0_2.length l0_2) (hc0_2 : l0_2.length ≤ c0_2) (h : impl_RowGet.f k a0_0 a0_1 l0_2 a1 = some (r1, r2, r3, r4, r5)) :
    Calls Try.prog 22 #[.agg #[.int .i64 a0_0, .int .i64 a0_1, .slice A0_2 l0_2.length c0_2], .string a1] w fun e w' => ∃ v2_ : Value, e = .returned (.tuple #[.agg #[.int .i64 r1, .int .i64 r2, v2_], .string r4, .bool r5]) ∧ Kd.R k120 120 w' w.heap.size (fun _ => True) v2_ r3 ∧ Below w.heap.size w w' := by
  unfold impl_RowGet.f at h
  by_cases hl : l0_2.length < 1000000
  case neg => rw [if_neg hl] at h; exact absurd h (by simp)
  rw [if_pos hl] at h
  obtain ⟨ok, hok, h⟩ := Option.bind_eq_some_iff.mp h
  have HR := Aside0.mk hr0_2
  have HC := Aside0.mk hc0_2
  have HL := Aside0.mk hl
  have hcr : impl_copyRow.f a0_0 a0_1 l0_2 = some (a0_0, a0_1, l0_2) := by unfold impl_copyRow.f impl_copyItems.f; rw [if_pos (by omega)]; rfl
  have HCR := Aside0.mk hcr
  clear hr0_2 hc0_2 hl hcr
  cases ok with
  | false =>
    have OK := Aside0.mk hok
    clear hok
    replace h : some (0, 0, [], (⟨#[]⟩ : ByteArray), false) = some (r1, r2, r3, r4, r5) := h
    simp only [Option.some.injEq, Prod.mk.injEq] at h
    obtain ⟨rfl, rfl, rfl, rfl, rfl⟩ := h
    go_enter Try.func22, Try.ntmps22
    go_wp2_with (go_at_call 77; refine (impl_RowOk.calls k a0_0 a0_1 A0_2 c0_2 l0_2 false _ (Kd.C_alloc (Kd.C_alloc HR.out _) _) HC.out OK.out).mono ?_; rintro e w1 ⟨rfl, hb⟩; have B1 := Aside0.mk (blk_below (blk_alloc (blk_new w _) _) hb); have B4 := Aside0.mk (show w1.heap[w.heap.size + 1]? = some (.cells #[.int .i64 0, .int .i64 0, .slice none 0 0] 34 (0, 0)) by have z := blk_below (blk_new (w.alloc _) _) hb; simpa using z); have HB := Aside0.mk (below_step ((Below.refl w.heap.size w).alloc (Nat.le_refl _) _ |>.alloc (by simp) _) hb); clear hb; obtain ⟨⟨p0, p1, p2⟩, q0, q1, q2⟩ := cells3 B1.out; obtain ⟨⟨p3, p4, p5⟩, q3, q4, q5⟩ := cells3 B4.out)
    refine bodyPost_ret (results_ctt rfl _ _ (w.heap.size + 1) 34 #[.int .i64 0, .int .i64 0, .slice none 0 0] (0, 0) _ rfl (put3 B4.out _ _ _) Try.underlying34 rfl (by kernel_rfl)) rfl ?_
    exact ⟨_, rfl, Kd.R_nil _ _ _ _ _, below_put3 HB.out (by omega) _ _ _⟩
  | true =>
    have OK := Aside0.mk hok
    clear hok
    replace h : (if ixOf l0_2 a1 < 0 then some (a0_0, a0_1, l0_2, (⟨#[]⟩ : ByteArray), false) else some (a0_0, a0_1, askedRow a0_0 l0_2 (ixOf l0_2 a1).toNat, (rd_T120 l0_2 (ixOf l0_2 a1)).f1, true)) = some (r1, r2, r3, r4, r5) := h
    by_cases hx : ixOf l0_2 a1 < 0
    · rw [if_pos hx] at h
      simp only [Option.some.injEq, Prod.mk.injEq] at h
      obtain ⟨rfl, rfl, rfl, rfl, rfl⟩ := h
      have hd : decide (ixOf l0_2 a1 < 0) = true := decide_eq_true hx
      clear hx
      go_enter Try.func22, Try.ntmps22
      go_wp2_with (first | (go_at_call 77; refine (impl_RowOk.calls k a0_0 a0_1 A0_2 c0_2 l0_2 true _ (Kd.C_alloc (Kd.C_alloc HR.out _) _) HC.out OK.out).mono ?_; rintro e w1 ⟨rfl, hb⟩; have B1 := Aside0.mk (blk_below (blk_alloc (blk_new w _) _) hb); have B4 := Aside0.mk (show w1.heap[w.heap.size + 1]? = some (.cells #[.int .i64 0, .int .i64 0, .slice none 0 0] 34 (0, 0)) by have z := blk_below (blk_new (w.alloc _) _) hb; simpa using z); have HB := Aside0.mk (below_step ((Below.refl w.heap.size w).alloc (Nat.le_refl _) _ |>.alloc (by simp) _) hb); clear hb; obtain ⟨⟨p0, p1, p2⟩, q0, q1, q2⟩ := cells3 B1.out; obtain ⟨⟨p3, p4, p5⟩, q3, q4, q5⟩ := cells3 B4.out) | (go_at_call 79; refine (impl_copyRow.calls a0_0 a0_1 A0_2 c0_2 l0_2 a0_0 a0_1 l0_2 _ (Kd.C_below HR.out HB.out) HC.out HCR.out).mono ?_; rintro e w2 ⟨v, rfl, hov, hb⟩; obtain ⟨Av, cv, rfl⟩ := Kd.R_slice hov; have HOV := Aside0.mk (Kd.R_lower hov HB.out.size); have C1 := Aside0.mk (blk_below B1.out hb); have C4 := Aside0.mk (blk_below B4.out hb); have HB2 := Aside0.mk (below_step HB.out hb); have HS2 := Aside0.mk (show w.heap.size + 1 < w2.heap.size from blk_lt C4.out); clear hb hov p0 p1 p2 p3 p4 p5 q0 q1 q2 q3 q4 q5; obtain ⟨⟨p0, p1, p2⟩, q0, q1, q2⟩ := cells3 C1.out; obtain ⟨⟨p3, p4, p5⟩, q3, q4, q5⟩ := cells3 C4.out; have p2a : (w2.alloc (.cells #[.int .i64 a0_0, .int .i64 a0_1, .slice Av l0_2.length cv] 34)).cell? ⟨w.heap.size, 2, none⟩ = some (.slice A0_2 l0_2.length c0_2) := (blk_cell (blk_alloc C1.out _) 2).trans rfl) | (go_at_call 80; refine (impl_itemAt.calls A0_2 c0_2 l0_2 a1 (ixOf l0_2 a1) _ (Kd.C_alloc (Kd.C_below HR.out HB2.out) _) HC.out rfl).mono ?_; rintro e w3 ⟨rfl, hb⟩; have D1 := Aside0.mk (blk_below (blk_alloc C1.out _) hb); have D4 := Aside0.mk (blk_below (blk_alloc C4.out _) hb); have D7 := Aside0.mk (blk_below (blk_new w2 _) hb); have HB3 := Aside0.mk (below_step (HB2.out.alloc HB2.out.size _) hb); have HO3 := Aside0.mk (Kd.R_below (Kd.R_alloc HOV.out _) hb); clear hb p2a p0 p1 p2 p3 p4 p5 q0 q1 q2 q3 q4 q5; obtain ⟨⟨p0, p1, p2⟩, q0, q1, q2⟩ := cells3 D1.out; obtain ⟨⟨p3, p4, p5⟩, q3, q4, q5⟩ := cells3 D4.out; obtain ⟨⟨p6, p7, p8⟩, q6, q7, q8⟩ := cells3 D7.out))
      refine bodyPost_ret (results_ctt rfl _ _ (w.heap.size + 1) 34 #[.int .i64 a0_0, .int .i64 a0_1, .slice Av l0_2.length cv] (0, 0) _ rfl (put3 D4.out _ _ _) Try.underlying34 rfl (by kernel_rfl)) rfl ?_
      exact ⟨_, rfl, R_put3 HO3.out D4.out (by decide) _ _ _, below_put3 HB3.out (by omega) _ _ _⟩
    · rw [if_neg hx] at h
      simp only [Option.some.injEq, Prod.mk.injEq] at h
      obtain ⟨rfl, rfl, rfl, rfl, rfl⟩ := h
      have hd : decide (ixOf l0_2 a1 < 0) = false := decide_eq_false hx
      obtain ⟨i, hi, hil, _⟩ := ixOf_pos l0_2 a1 hx
      have HX := Aside0.mk hi
      have HI := Aside0.mk hil
      clear hx hi hil
      obtain ⟨x, hx⟩ : ∃ x, x = ixOf l0_2 a1 := ⟨_, rfl⟩
      have HXX := Aside0.mk hx
      rw [← hx] at hd HX ⊢
      clear hx
      have hxi : x = (i : Int) := HX.out
      subst hxi
      go_enter Try.func22, Try.ntmps22
      go_wp2_with (first | (go_at_call 77; refine (impl_RowOk.calls k a0_0 a0_1 A0_2 c0_2 l0_2 true _ (Kd.C_alloc (Kd.C_alloc HR.out _) _) HC.out OK.out).mono ?_; rintro e w1 ⟨rfl, hb⟩; have B1 := Aside0.mk (blk_below (blk_alloc (blk_new w _) _) hb); have B4 := Aside0.mk (show w1.heap[w.heap.size + 1]? = some (.cells #[.int .i64 0, .int .i64 0, .slice none 0 0] 34 (0, 0)) by have z := blk_below (blk_new (w.alloc _) _) hb; simpa using z); have HB := Aside0.mk (below_step ((Below.refl w.heap.size w).alloc (Nat.le_refl _) _ |>.alloc (by simp) _) hb); clear hb; obtain ⟨⟨p0, p1, p2⟩, q0, q1, q2⟩ := cells3 B1.out; obtain ⟨⟨p3, p4, p5⟩, q3, q4, q5⟩ := cells3 B4.out) | (go_at_call 79; refine (impl_copyRow.calls a0_0 a0_1 A0_2 c0_2 l0_2 a0_0 a0_1 l0_2 _ (Kd.C_below HR.out HB.out) HC.out HCR.out).mono ?_; rintro e w2 ⟨v, rfl, hov, hb⟩; obtain ⟨Av, cv, rfl⟩ := Kd.R_slice hov; have HOV := Aside0.mk (Kd.R_lower hov HB.out.size); have C1 := Aside0.mk (blk_below B1.out hb); have C4 := Aside0.mk (blk_below B4.out hb); have HB2 := Aside0.mk (below_step HB.out hb); have HS2 := Aside0.mk (show w.heap.size + 1 < w2.heap.size from blk_lt C4.out); clear hb hov p0 p1 p2 p3 p4 p5 q0 q1 q2 q3 q4 q5; obtain ⟨⟨p0, p1, p2⟩, q0, q1, q2⟩ := cells3 C1.out; obtain ⟨⟨p3, p4, p5⟩, q3, q4, q5⟩ := cells3 C4.out; have p2a : (w2.alloc (.cells #[.int .i64 a0_0, .int .i64 a0_1, .slice Av l0_2.length cv] 34)).cell? ⟨w.heap.size, 2, none⟩ = some (.slice A0_2 l0_2.length c0_2) := (blk_cell (blk_alloc C1.out _) 2).trans rfl) | (go_at_call 80; refine (impl_itemAt.calls A0_2 c0_2 l0_2 a1 (i : Int) _ (Kd.C_alloc (Kd.C_below HR.out HB2.out) _) HC.out (by unfold impl_itemAt.f; rw [HXX.out])).mono ?_; rintro e w3 ⟨rfl, hb⟩; have D1 := Aside0.mk (blk_below (blk_alloc C1.out _) hb); have D4 := Aside0.mk (blk_below (blk_alloc C4.out _) hb); have D7 := Aside0.mk (blk_below (blk_new w2 _) hb); have HB3 := Aside0.mk (below_step (HB2.out.alloc HB2.out.size _) hb); have HO3 := Aside0.mk (Kd.R_below (Kd.R_alloc HOV.out _) hb); clear hb p2a p0 p1 p2 p3 p4 p5 q0 q1 q2 q3 q4 q5; obtain ⟨⟨p0, p1, p2⟩, q0, q1, q2⟩ := cells3 D1.out; obtain ⟨⟨p3, p4, p5⟩, q3, q4, q5⟩ := cells3 D4.out; obtain ⟨⟨p6, p7, p8⟩, q6, q7, q8⟩ := cells3 D7.out) | (go_at_call 81; refine (impl_Row_asked.mine a0_0 a0_1 w2.heap.size (.slice Av l0_2.length cv) l0_2 i HI.out w.heap.size w w3 D7.out HO3.out HB3.out HB3.out.size (Nat.le_of_lt (Nat.lt_of_succ_lt HS2.out)) HL.out).mono ?_; rintro e w4 ⟨rfl, V', hbk, ho, hb, hkp⟩; obtain ⟨A4, c4, rfl⟩ := Kd.R_slice ho; have E7 := Aside0.mk hbk; have HO4 := Aside0.mk ho; have HB4 := Aside0.mk hb; have E1 := Aside0.mk (KeepBut.blk hkp D1.out (Nat.ne_of_lt (Nat.lt_of_succ_lt HS2.out)) (Kd.R_ne HO3.out D1.out (by decide))); have E4 := Aside0.mk (KeepBut.blk hkp D4.out (Nat.ne_of_lt HS2.out) (Kd.R_ne HO3.out D4.out (by decide))); clear hbk ho hb hkp p0 p1 p2 p3 p4 p5 p6 p7 p8 q0 q1 q2 q3 q4 q5 q6 q7 q8))
      obtain ⟨ad, e1, h0, h1, h2⟩ := at_T120 HR.out (i : Int) (by omega) (by have := HI.out; omega)
      cases e1
      simp only [Int.toNat_natCast] at h1
      have s4 := (HB4.out.cell (World.block_lt_of_cell? w _ h1)).trans h1
      have s3 : w4.cell? ⟨w.heap.size, 2, none⟩ = some (.slice (some ad) l0_2.length c0_2) := (blk_cell E1.out 2).trans rfl
      obtain ⟨⟨s0, s1, s2⟩, _⟩ := cells3 E7.out
      have q1 : ((i : Int) < (l0_2.length : Int)) = True := eq_true (by have := HI.out; omega)
      have q2 : (i < l0_2.length) = True := eq_true HI.out
      have HAD := Aside0.mk (show (ad.add (i * 3)).block < w.heap.size from World.block_lt_of_cell? w ⟨(ad.add (i * 3)).block, (ad.add (i * 3)).off + 1, none⟩ h1)
      clear h0 h1 h2
      refine start_ (n := 10) (S := fun w' => w'.cell? ⟨w2.heap.size, 0, none⟩ = some (.int .i64 a0_0) ∧ w'.cell? ⟨w2.heap.size, 1, none⟩ = some (.int .i64 a0_1) ∧ w'.cell? ⟨w2.heap.size, 2, none⟩ = some (.slice A4 (askedRow a0_0 l0_2 i).length c4) ∧ w'.cell? ⟨w.heap.size, 2, none⟩ = some (.slice (some ad) l0_2.length c0_2) ∧ w'.cell? ⟨(ad.add (i * 3)).block, (ad.add (i * 3)).off + 1, none⟩ = some (.string (rd_T120 l0_2 i).f1)) (ds := []) #[false, false, false, false, false, false, false, false, false, false] (by kernel_rfl) rfl rfl ⟨s0, s1, s2, s3, s4⟩ (fun hHeld => ?_)
      clear s0 s1 s2 s3 s4
      refine take_ (i := 0) (N := some 24) (v := ?_) (a' := ?_) #[true, false, false, false, false, false, false, false, false, false] rfl rfl (by kernel_rfl) (fun _ _ _ h => h) (Or.inl ⟨by rfl, ?_⟩) hHeld ?_ ?_
      rotate_left
      · rintro w' ⟨s0, s1, s2, s3, s4⟩
        go_simp
        with_reducible rfl
      rotate_left
      · simp only [Act.put, lz1, lz2, lz3, i64_w, i32_w]
        rfl
      refine pure_ (i := 1) (N := some 25) (v := ?_) (a' := ?_) #[true, true, false, false, false, false, false, false, false, false] rfl rfl (by kernel_rfl) (fun _ _ _ h => h) (Or.inl ⟨by rfl, ?_⟩) ?_ ?_
      rotate_left
      · intro w'
        go_simp
        with_reducible rfl
      rotate_left
      · simp only [Act.put, lz1, lz2, lz3, i64_w, i32_w]
        rfl
      refine take_ (i := 2) (N := some 26) (v := ?_) (a' := ?_) #[true, true, true, false, false, false, false, false, false, false] rfl rfl (by kernel_rfl) (fun _ _ _ h => h) (Or.inl ⟨by rfl, ?_⟩) hHeld ?_ ?_
      rotate_left
      · rintro w' ⟨s0, s1, s2, s3, s4⟩
        go_simp
        with_reducible rfl
      rotate_left
      · simp only [Act.put, lz1, lz2, lz3, i64_w, i32_w]
        rfl
      refine pure_ (i := 3) (N := some 27) (v := ?_) (a' := ?_) #[true, true, true, true, false, false, false, false, false, false] rfl rfl (by kernel_rfl) (fun _ _ _ h => h) (Or.inl ⟨by rfl, ?_⟩) ?_ ?_
      rotate_left
      · intro w'
        go_simp
        with_reducible rfl
      rotate_left
      · simp only [Act.put, lz1, lz2, lz3, i64_w, i32_w]
        rfl
      refine pure_ (i := 4) (N := some 28) (v := ?_) (a' := ?_) #[true, true, true, true, true, false, false, false, false, false] rfl rfl (by kernel_rfl) (fun _ _ _ h => h) (Or.inl ⟨by rfl, ?_⟩) ?_ ?_
      rotate_left
      · intro w'
        go_simp
        with_reducible rfl
      rotate_left
      · simp only [Act.put, lz1, lz2, lz3, i64_w, i32_w]
        rfl
      refine pure_ (i := 5) (N := some 29) (v := ?_) (a' := ?_) #[true, true, true, true, true, true, false, false, false, false] rfl rfl (by kernel_rfl) (fun _ _ _ h => h) (Or.inl ⟨by rfl, ?_⟩) ?_ ?_
      rotate_left
      · intro w'
        go_simp
        with_reducible rfl
      rotate_left
      · simp only [Act.put, lz1, lz2, lz3, i64_w, i32_w]
        rfl
      refine take_ (i := 6) (N := some 30) (v := ?_) (a' := ?_) #[true, true, true, true, true, true, true, false, false, false] rfl rfl (by kernel_rfl) (fun _ _ _ h => h) (Or.inl ⟨by rfl, ?_⟩) hHeld ?_ ?_
      rotate_left
      · rintro w' ⟨s0, s1, s2, s3, s4⟩
        go_simp
        with_reducible rfl
      rotate_left
      · simp only [Act.put, lz1, lz2, lz3, i64_w, i32_w]
        rfl
      refine one_ (i := 7) (N := none) #[true, true, true, true, true, true, true, true, false, false] rfl rfl (by kernel_rfl) (by decide) (fun K hK => ?_)
      obtain ⟨⟨p3, p4, p5⟩, q3, q4, q5⟩ := cells3 E4.out
      refine skip_ rfl rfl (w1 := ((w4.drew.setCell ⟨w.heap.size + 1, 0, none⟩ (.int .i64 a0_0)).setCell ⟨w.heap.size + 1, 1, none⟩ (.int .i64 a0_1)).setCell ⟨w.heap.size + 1, 2, none⟩ (.slice A4 (askedRow a0_0 l0_2 i).length c4)) (by go_simp) ?_
      refine hK.out _ _ ⟨far_cell3 hHeld.1 (Nat.ne_of_gt HS2.out) _ _ _, far_cell3 hHeld.2.1 (Nat.ne_of_gt HS2.out) _ _ _, far_cell3 hHeld.2.2.1 (Nat.ne_of_gt HS2.out) _ _ _, far_cell3 hHeld.2.2.2.1 (by simp) _ _ _, far_cell3 hHeld.2.2.2.2 (Nat.ne_of_lt (Nat.lt_succ_of_lt HAD.out)) _ _ _⟩ (fun hHeld => ?_)
      clear hK K
      refine pure_ (i := 8) (N := some 5) (v := ?_) (a' := ?_) #[true, true, true, true, true, true, true, true, true, false] rfl rfl (by kernel_rfl) (fun _ _ _ h => h) (Or.inl ⟨by rfl, ?_⟩) ?_ ?_
      rotate_left
      · intro w'
        go_simp
        with_reducible rfl
      rotate_left
      · simp only [Act.put, lz1, lz2, lz3, i64_w, i32_w]
        rfl
      refine pure_ (i := 9) (N := some 6) (v := ?_) (a' := ?_) #[true, true, true, true, true, true, true, true, true, true] rfl rfl (by kernel_rfl) (fun _ _ _ h => h) (Or.inl ⟨by rfl, ?_⟩) ?_ ?_
      rotate_left
      · intro w'
        go_simp
        with_reducible rfl
      rotate_left
      · simp only [Act.put, lz1, lz2, lz3, i64_w, i32_w]
        rfl
      refine done_ (by kernel_rfl) ?_
      clear p3 p4 p5 q3 q4 q5
      go_wp2
      refine bodyPost_ret (results_ctt rfl _ _ (w.heap.size + 1) 34 #[.int .i64 a0_0, .int .i64 a0_1, .slice A4 (askedRow a0_0 l0_2 i).length c4] (0, 0) _ rfl (put3 (blk_drew E4.out) _ _ _) Try.underlying34 rfl (by kernel_rfl)) rfl ?_
      exact ⟨_, rfl, R_put3 (Kd.R_drew HO4.out) (blk_drew E4.out) (by decide) _ _ _, below_put3 HB4.out.drew (by omega) _ _ _⟩
def spin : Nat → List S120 → Option (List S120)
  | 0, _ => none
  | _ + 1, [] => none
  | n + 1, x :: t => if x.f2 = 1 then spin n (t ++ [⟨x.f0, x.f1, 0⟩]) else some (x :: t)
def impl_RowPut.f (k : Nat) (a0_0 a0_1 : Int) (l0_2 : List S120) (a1 a2 : ByteArray) : Option (Int × Int × List S120 × List ByteArray × Bool) :=
  if l0_2.length < 1000000 then
    (impl_RowOk.f k a0_0 a0_1 l0_2).bind fun ok =>
      if ok = true then (impl_ItemOk.f k a1 a2 0).bind fun ok2 =>
        if ok2 = true then (if ixOf l0_2 a1 < 0 then
            (if (l0_2.length : Int) = a0_1 then (spin (l0_2.length + 1) l0_2).bind fun q => some (a0_0, a0_1, q.tail ++ [⟨a1, a2, 0⟩], [(rd_T120 q 0).f0], true)
             else some (a0_0, a0_1, l0_2 ++ [⟨a1, a2, 0⟩], [], true))
          else some (a0_0, a0_1, askedRow a0_0 (l0_2.set (ixOf l0_2 a1).toNat ⟨(rd_T120 l0_2 (ixOf l0_2 a1)).f0, a2, (rd_T120 l0_2 (ixOf l0_2 a1)).f2⟩) (ixOf l0_2 a1).toNat, [], true))
        else some (0, 0, [], [], false)
      else some (0, 0, [], [], false)
  else none
theorem impl_RowPut.mono : ∀ a0 a1 a2 a3 a4 k, LeO (impl_RowPut.f k a0 a1 a2 a3 a4) (impl_RowPut.f (k + 1) a0 a1 a2 a3 a4) := by
  intro a0 a1 a2 a3 a4 k
  unfold impl_RowPut.f
  refine LeO.ite (LeO.bind (impl_RowOk.mono _ _ _ _) (fun _ => LeO.ite (LeO.bind (impl_ItemOk.mono _ _ _ _) (fun _ => LeO.refl _)) (LeO.refl _))) (LeO.refl _)
set_option maxHeartbeats 8000000 in
set_option maxRecDepth 100000 in
theorem impl_RowPut.no (k : Nat) (a0_0 a0_1 : Int) (A0_2 : Option Addr) (c0_2 : Nat) (l0_2 : List S120) (a1 a2 : ByteArray) (w : World) (hr0_2 : Kd.C k120 w A0_2 l0_2.length l0_2) (hc0_2 : l0_2.length ≤ c0_2)
    (h : impl_RowOk.f k a0_0 a0_1 l0_2 = some false ∨ impl_RowOk.f k a0_0 a0_1 l0_2 = some true ∧ impl_ItemOk.f k a1 a2 0 = some false) :
    Calls Try.prog 21 #[.agg #[.int .i64 a0_0, .int .i64 a0_1, .slice A0_2 l0_2.length c0_2], .string a1, .string a2] w fun e w' => e = .returned (.tuple #[.agg #[.int .i64 0, .int .i64 0, .slice none 0 0], .slice none 0 0, .bool false]) ∧ Below w.heap.size w w' := by
  have HR := Aside0.mk hr0_2
  have HC := Aside0.mk hc0_2
  clear hr0_2 hc0_2
  rcases h with h | ⟨h, h2⟩
  · have OK := Aside0.mk h
    clear h
    go_enter Try.func21, Try.ntmps21
    go_wp2_with (go_at_call 77; refine (impl_RowOk.calls k a0_0 a0_1 A0_2 c0_2 l0_2 false _ (Kd.C_alloc (Kd.C_alloc HR.out _) _) HC.out OK.out).mono ?_; rintro e w1 ⟨rfl, hb⟩; have B1 := Aside0.mk (blk_below (blk_alloc (blk_new w _) _) hb); have B4 := Aside0.mk (show w1.heap[w.heap.size + 1]? = some (.cells #[.int .i64 0, .int .i64 0, .slice none 0 0] 34 (0, 0)) by have z := blk_below (blk_new (w.alloc _) _) hb; simpa using z); have HB := Aside0.mk (below_step ((Below.refl w.heap.size w).alloc (Nat.le_refl _) _ |>.alloc (by simp) _) hb); clear hb; obtain ⟨⟨p0, p1, p2⟩, q0, q1, q2⟩ := cells3 B1.out; obtain ⟨⟨p3, p4, p5⟩, q3, q4, q5⟩ := cells3 B4.out)
    refine bodyPost_ret (results_ctt rfl _ _ (w.heap.size + 1) 34 #[.int .i64 0, .int .i64 0, .slice none 0 0] (0, 0) _ rfl (put3 B4.out _ _ _) Try.underlying34 rfl (by kernel_rfl)) rfl ?_
    exact ⟨rfl, below_put3 HB.out (by omega) _ _ _⟩
  · have OK := Aside0.mk h
    have IOK := Aside0.mk h2
    clear h h2
    go_enter Try.func21, Try.ntmps21
    go_wp2_with (first | (go_at_call 77; refine (impl_RowOk.calls k a0_0 a0_1 A0_2 c0_2 l0_2 true _ (Kd.C_alloc (Kd.C_alloc HR.out _) _) HC.out OK.out).mono ?_; rintro e w1 ⟨rfl, hb⟩; have B1 := Aside0.mk (blk_below (blk_alloc (blk_new w _) _) hb); have B4 := Aside0.mk (show w1.heap[w.heap.size + 1]? = some (.cells #[.int .i64 0, .int .i64 0, .slice none 0 0] 34 (0, 0)) by have z := blk_below (blk_new (w.alloc _) _) hb; simpa using z); have HB := Aside0.mk (below_step ((Below.refl w.heap.size w).alloc (Nat.le_refl _) _ |>.alloc (by simp) _) hb); clear hb; obtain ⟨⟨p0, p1, p2⟩, q0, q1, q2⟩ := cells3 B1.out; obtain ⟨⟨p3, p4, p5⟩, q3, q4, q5⟩ := cells3 B4.out) | (go_at_call 78; refine (impl_ItemOk.calls k a1 a2 0 false _ IOK.out).mono ?_; rintro e w2 ⟨rfl, hb⟩; have C1 := Aside0.mk (blk_below B1.out hb); have C4 := Aside0.mk (blk_below B4.out hb); have HB2 := Aside0.mk (below_step HB.out hb); clear hb p0 p1 p2 p3 p4 p5 q0 q1 q2 q3 q4 q5; obtain ⟨⟨p0, p1, p2⟩, q0, q1, q2⟩ := cells3 C1.out; obtain ⟨⟨p3, p4, p5⟩, q3, q4, q5⟩ := cells3 C4.out))
    refine bodyPost_ret (results_ctt rfl _ _ (w.heap.size + 1) 34 #[.int .i64 0, .int .i64 0, .slice none 0 0] (0, 0) _ rfl (put3 C4.out _ _ _) Try.underlying34 rfl (by kernel_rfl)) rfl ?_
    exact ⟨rfl, below_put3 HB2.out (by omega) _ _ _⟩
theorem R_keep2 {α β : Type} {d : Kd α} {d' : Kd β} {e e' g t base b' : Nat} {w w1 : World} {ok ok' : Nat → Prop} {v u : Value} {xs : List α} {ys : List β} {cs : Array Value} {row : Option Nat} (h : d.R e w base ok v xs) (hk : KeepBut w w1 g row)
    (hb : w.heap[g]? = some (.cells cs t (0, 0))) (ht : ∀ q, q ∈ e :: d.E → q ≠ t) (hv : d'.R e' w b' ok' u ys) (he : row = u.ownBlock) (ht' : ∀ q, q ∈ e :: d.E → q ≠ e') : d.R e w1 base ok v xs := by
  refine Kd.R_mono (Kd.R_move (Kd.R_bound h) (fun k hk' => ?_)) (fun _ hk' => hk'.1)
  obtain ⟨_, _, hlt, q, hq, cells, hc⟩ := hk'
  refine hk.2 k hlt (fun e1 => ?_) (fun e1 => ?_)
  · subst e1
    rw [hb] at hc
    injection hc with hc
    injection hc with _ hc
    exact ht q hq hc.symm
  · obtain ⟨inner, ho⟩ := Kd.R_own hv
    obtain ⟨cells', hc'⟩ := own_typed ho k (by rw [← he, ← e1])
    rw [hc] at hc'
    injection hc' with hc'
    injection hc' with _ hc'
    exact ht' q hq hc'
theorem R_grownT {α : Type} {d : Kd α} {e e' base : Nat} {w w1 : World} {ok : Nat → Prop} {v : Value} {xs : List α} {row : Option Nat} (h : d.R e w base ok v xs) (hg : w.grownBy w1 row) (hrow : ∀ k, row = some k → ∃ cells, w.heap[k]? = some (.cells cells e' (0, 0))) (ht : ∀ q, q ∈ e :: d.E → q ≠ e') : d.R e w1 base ok v xs := by
  refine Kd.R_mono (Kd.R_move (Kd.R_bound h) (fun k hk' => ?_)) (fun _ hk' => hk'.1)
  obtain ⟨_, _, hlt, q, hq, cells, hc⟩ := hk'
  refine hg.block k hlt (fun e1 => ?_)
  obtain ⟨cells', hc'⟩ := hrow k e1.symm
  rw [hc] at hc'
  injection hc' with hc'
  injection hc' with _ hc'
  exact ht q hq hc'
theorem R_put3g {α : Type} {d : Kd α} {e base : Nat} {w : World} {ok : Nat → Prop} {V : Value} {xs : List α} {g : Nat} {cs : Array Value} {t : Nat} (h : d.R e w base ok V xs) (hb : w.heap[g]? = some (.cells cs t (0, 0))) (ht : ∀ q, q ∈ e :: d.E → q ≠ t) (x y z : Value) : d.R e (((w.setCell ⟨g, 0, none⟩ x).setCell ⟨g, 1, none⟩ y).setCell ⟨g, 2, none⟩ z) base ok V xs :=
  Kd.R_set (Kd.R_set (Kd.R_set h hb ht 0 x) (blk_set hb 0 x) ht 1 y) (blk_set (blk_set hb 0 x) 1 y) ht 2 z
theorem addr_add_zero (a : Addr) : a.add 0 = a := by
  simp [Addr.add]
theorem Q_grownT {α : Type} {d : Kd α} {e e' base : Nat} {w w1 : World} {ok : Nat → Prop} {v : Value} {xs : List α} {row : Option Nat} (h : d.Q e w base ok v xs) (hg : w.grownBy w1 row) (hrow : ∀ k, row = some k → ∃ cells, w.heap[k]? = some (.cells cells e' (0, 0))) (ht : ∀ q, q ∈ e :: d.E → q ≠ e') : d.Q e w1 base ok v xs := by
  refine Kd.Q_mono (Kd.Q_move (Kd.Q_bound h) (fun k hk' => ?_)) (fun _ hk' => hk'.1)
  obtain ⟨_, _, hlt, q, hq, cells, hc⟩ := hk'
  refine hg.block k hlt (fun e1 => ?_)
  obtain ⟨cells', hc'⟩ := hrow k e1.symm
  rw [hc] at hc'
  injection hc' with hc'
  injection hc' with _ hc'
  exact ht q hq hc'
theorem rtyped {α : Type} {d : Kd α} {e base : Nat} {w : World} {ok : Nat → Prop} {v : Value} {xs : List α} (h : d.R e w base ok v xs) : ∀ k, v.ownBlock = some k → ∃ cells, w.heap[k]? = some (.cells cells e (0, 0)) := by
  obtain ⟨inner, ho⟩ := Kd.R_own h
  exact fun k hk => own_typed ho k hk
set_option maxHeartbeats 8000000 in
set_option maxRecDepth 100000 in
theorem impl_RowPut.hit (k : Nat) (a0_0 a0_1 : Int) (A0_2 : Option Addr) (c0_2 : Nat) (l0_2 : List S120) (a1 a2 : ByteArray) (w : World) (hr0_2 : Kd.C k120 w A0_2 l0_2.length l0_2) (hc0_2 : l0_2.length ≤ c0_2) (hl : l0_2.length < 1000000)
    (ho1 : impl_RowOk.f k a0_0 a0_1 l0_2 = some true) (ho2 : impl_ItemOk.f k a1 a2 0 = some true) (i : Nat) (hi : i < l0_2.length) (hx : ixOf l0_2 a1 = i) :
    Calls Try.prog 21 #[.agg #[.int .i64 a0_0, .int .i64 a0_1, .slice A0_2 l0_2.length c0_2], .string a1, .string a2] w fun e w' => ∃ v2_ v3_ : Value, e = .returned (.tuple #[.agg #[.int .i64 a0_0, .int .i64 a0_1, v2_], v3_, .bool true]) ∧
      Kd.R k120 120 w' w.heap.size (fun _ => True) v2_ (askedRow a0_0 (l0_2.set i ⟨(rd_T120 l0_2 i).f0, a2, (rd_T120 l0_2 i).f2⟩) i) ∧ Kd.R Kd.string 9 w' w.heap.size (fun _ => True) v3_ [] ∧ Below w.heap.size w w' := by
  have HR := Aside0.mk hr0_2
  have HC := Aside0.mk hc0_2
  have HL := Aside0.mk hl
  have HI := Aside0.mk hi
  have OK := Aside0.mk ho1
  have IOK := Aside0.mk ho2
  have HXX := Aside0.mk hx
  have HCR := Aside0.mk (show impl_copyRow.f a0_0 a0_1 l0_2 = some (a0_0, a0_1, l0_2) by unfold impl_copyRow.f impl_copyItems.f; rw [if_pos (by omega)]; rfl)
  have t1 : ((i : Int) < (l0_2.length : Int)) = True := eq_true (by omega)
  have t2 : (i < l0_2.length) = True := eq_true hi
  obtain ⟨xs1, hxs1⟩ : ∃ q, q = l0_2.set i ⟨(rd_T120 l0_2 i).f0, a2, (rd_T120 l0_2 i).f2⟩ := ⟨_, rfl⟩
  have HX1 := Aside0.mk hxs1
  rw [← hxs1]
  clear hr0_2 hc0_2 hl hi ho1 ho2 hx hxs1
  go_enter Try.func21, Try.ntmps21
  go_wp2_with (first | (go_at_call 77; refine (impl_RowOk.calls k a0_0 a0_1 A0_2 c0_2 l0_2 true _ (Kd.C_alloc (Kd.C_alloc HR.out _) _) HC.out OK.out).mono ?_; rintro e w1 ⟨rfl, hb⟩; have B1 := Aside0.mk (blk_below (blk_alloc (blk_new w _) _) hb); have B4 := Aside0.mk (show w1.heap[w.heap.size + 1]? = some (.cells #[.int .i64 0, .int .i64 0, .slice none 0 0] 34 (0, 0)) by have z := blk_below (blk_new (w.alloc _) _) hb; simpa using z); have HB := Aside0.mk (below_step ((Below.refl w.heap.size w).alloc (Nat.le_refl _) _ |>.alloc (by simp) _) hb); clear hb; obtain ⟨⟨p0, p1, p2⟩, q0, q1, q2⟩ := cells3 B1.out; obtain ⟨⟨p3, p4, p5⟩, q3, q4, q5⟩ := cells3 B4.out) | (go_at_call 78; refine (impl_ItemOk.calls k a1 a2 0 true _ IOK.out).mono ?_; rintro e w2 ⟨rfl, hb⟩; have C1 := Aside0.mk (blk_below B1.out hb); have C4 := Aside0.mk (blk_below B4.out hb); have HB2 := Aside0.mk (below_step HB.out hb); clear hb p0 p1 p2 p3 p4 p5 q0 q1 q2 q3 q4 q5; obtain ⟨⟨p0, p1, p2⟩, q0, q1, q2⟩ := cells3 C1.out; obtain ⟨⟨p3, p4, p5⟩, q3, q4, q5⟩ := cells3 C4.out) | (go_at_call 79; refine (impl_copyRow.calls a0_0 a0_1 A0_2 c0_2 l0_2 a0_0 a0_1 l0_2 _ (Kd.C_below HR.out HB2.out) HC.out HCR.out).mono ?_; rintro e w3 ⟨v, rfl, hov, hb⟩; obtain ⟨Av, cv, rfl⟩ := Kd.R_slice hov; have HOV := Aside0.mk (Kd.R_lower hov HB2.out.size); have D1 := Aside0.mk (blk_below C1.out hb); have D4 := Aside0.mk (blk_below C4.out hb); have HB3 := Aside0.mk (below_step HB2.out hb); have HS3 := Aside0.mk (show w.heap.size + 1 < w3.heap.size from blk_lt D4.out); clear hb hov p0 p1 p2 p3 p4 p5 q0 q1 q2 q3 q4 q5; obtain ⟨⟨p0, p1, p2⟩, q0, q1, q2⟩ := cells3 D1.out; obtain ⟨⟨p3, p4, p5⟩, q3, q4, q5⟩ := cells3 D4.out) | ((with_reducible refine gate_dst (N := 26) rfl ?_); refine Kd.R_lit Kd.string _ 9 ?hg (N := 26) ?hd (xs := ([] : List ByteArray)) (inner := []) (ok := fun _ => True) (okp := fun _ => True) ?hr ?hp (fun _ hk => hk) trivial (Below.refl _ _) (Nat.le_refl _) (by simp) ?_; (case hd => rfl); (case hg => rfl); (case hr => first | (go_simp; done) | (go_simp; rfl)); (case hp => exact (Reps.none _ _)); intro vg w4 hog hb hgx hnew; clear hgx hnew; have E1 := Aside0.mk (blk_below (blk_alloc D1.out _) hb); have E4 := Aside0.mk (blk_below (blk_alloc D4.out _) hb); have E7 := Aside0.mk (blk_below (blk_new w3 _) hb); have HB4 := Aside0.mk (below_step (HB3.out.alloc HB3.out.size _) hb); have HO4 := Aside0.mk (Kd.R_below (Kd.R_alloc HOV.out _) hb); have HG4 := Aside0.mk (Kd.R_lower hog (show w.heap.size ≤ (w3.alloc _).heap.size by have := HB3.out.size; simp; omega)); obtain ⟨Ag, cg, rfl⟩ := Kd.R_slice hog; clear hb hog p0 p1 p2 p3 p4 p5 q0 q1 q2 q3 q4 q5; obtain ⟨⟨p0, p1, p2⟩, q0, q1, q2⟩ := cells3 E1.out; obtain ⟨⟨p3, p4, p5⟩, q3, q4, q5⟩ := cells3 E4.out; obtain ⟨⟨p6, p7, p8⟩, q6, q7, q8⟩ := cells3 E7.out) | (go_at_call 80; refine (impl_itemAt.calls A0_2 c0_2 l0_2 a1 (i : Int) _ (Kd.C_below HR.out HB4.out) HC.out (by unfold impl_itemAt.f; rw [HXX.out])).mono ?_; rintro e w5 ⟨rfl, hb⟩; have F1 := Aside0.mk (blk_below E1.out hb); have F4 := Aside0.mk (blk_below E4.out hb); have F7 := Aside0.mk (blk_below E7.out hb); have HB5 := Aside0.mk (below_step HB4.out hb); have HO5 := Aside0.mk (Kd.R_below HO4.out hb); have HG5 := Aside0.mk (Kd.R_below HG4.out hb); clear hb p0 p1 p2 p3 p4 p5 p6 p7 p8 q0 q1 q2 q3 q4 q5 q6 q7 q8; obtain ⟨⟨p0, p1, p2⟩, q0, q1, q2⟩ := cells3 F1.out; obtain ⟨⟨p3, p4, p5⟩, q3, q4, q5⟩ := cells3 F4.out; obtain ⟨⟨p6, p7, p8⟩, q6, q7, q8⟩ := cells3 F7.out; have hf := own_form HO5.out (by have := HI.out; omega); obtain ⟨gv, cv2, he, hle, hgb, hgl⟩ := hf; injection he with he1 he2 he3; subst he1; have HGL := Aside0.mk hgl; have HGB := Aside0.mk hgb; have hfz : w5.frozen? ⟨gv, i * 3 + 1, none⟩ = false := (own_cells HO5.out).elim (fun cur hh => blk_frozen hh.1 _); obtain ⟨x0, x1, x2⟩ := own_elem HO5.out i HI.out; have HP := Aside0.mk (own_put1 HO5.out i HI.out a2); clear he2 he3 hle hgb hgl; have NE7 : Aside0 (w3.heap.size ≠ gv) := ⟨fun h => Kd.R_ne HO5.out F7.out (by decide) (by rw [h]; rfl)⟩; have NE4 : Aside0 (w.heap.size + 1 ≠ gv) := ⟨fun h => Kd.R_ne HO5.out F4.out (by decide) (by rw [h]; rfl)⟩) | (go_at_call 81; refine (impl_Row_asked.mine a0_0 a0_1 w3.heap.size (.slice (some ⟨gv, 0, none⟩) l0_2.length cv) xs1 i (by rw [HX1.out, List.length_set]; exact HI.out) w.heap.size w (w5.setCell ⟨gv, i * 3 + 1, none⟩ (.string a2)) (blk_far F7.out NE7.out _) (by rw [HX1.out]; exact HP.out.1) (HB5.out.setCell (by exact HGB.out) _) (by have := HB5.out.size; simp [World.setCell]; omega) (Nat.le_of_lt (Nat.lt_of_succ_lt HS3.out)) (by rw [HX1.out, List.length_set]; exact HL.out)).mono ?_; rintro e w7 ⟨rfl, V', hbk, ho, hb, hkp⟩; obtain ⟨A7, c7, rfl⟩ := Kd.R_slice ho; have G7 := Aside0.mk hbk; have HO7 := Aside0.mk ho; have HB7 := Aside0.mk hb; have G4 := Aside0.mk (KeepBut.blk hkp (blk_far F4.out NE4.out _) (Nat.ne_of_lt HS3.out) (fun h => by injection h with h; exact NE4.out h)); have HG7 := Aside0.mk (R_keep2 (Kd.R_over HG5.out HO5.out (by decide) HP.out.2) hkp (blk_far F7.out NE7.out _) (by decide) HP.out.1 rfl (by decide)); clear hbk ho hb hkp p0 p1 p2 p3 p4 p5 p6 p7 p8 q0 q1 q2 q3 q4 q5 q6 q7 q8 x0 x1 x2 hfz; obtain ⟨⟨p3, p4, p5⟩, q3, q4, q5⟩ := cells3 G4.out; obtain ⟨⟨p6, p7, p8⟩, q6, q7, q8⟩ := cells3 G7.out))
  refine bodyPost_ret (results_ctt rfl _ _ (w.heap.size + 1) 34 #[.int .i64 a0_0, .int .i64 a0_1, .slice A7 (askedRow a0_0 xs1 i).length c7] (0, 0) _ rfl (put3 G4.out _ _ _) Try.underlying34 rfl (by kernel_rfl)) rfl ?_
  exact ⟨_, _, rfl, R_put3 HO7.out G4.out (by decide) _ _ _, R_put3g HG7.out G4.out (by decide) _ _ _, below_put3 HB7.out (by omega) _ _ _⟩
set_option maxHeartbeats 8000000 in
set_option maxRecDepth 100000 in
theorem impl_RowPut.more (k : Nat) (a0_0 a0_1 : Int) (A0_2 : Option Addr) (c0_2 : Nat) (l0_2 : List S120) (a1 a2 : ByteArray) (w : World) (hr0_2 : Kd.C k120 w A0_2 l0_2.length l0_2) (hc0_2 : l0_2.length ≤ c0_2) (hl : l0_2.length < 1000000)
    (ho1 : impl_RowOk.f k a0_0 a0_1 l0_2 = some true) (ho2 : impl_ItemOk.f k a1 a2 0 = some true) (hx : ixOf l0_2 a1 < 0) (hn : ¬ (l0_2.length : Int) = a0_1) :
    Calls Try.prog 21 #[.agg #[.int .i64 a0_0, .int .i64 a0_1, .slice A0_2 l0_2.length c0_2], .string a1, .string a2] w fun e w' => ∃ v2_ v3_ : Value, e = .returned (.tuple #[.agg #[.int .i64 a0_0, .int .i64 a0_1, v2_], v3_, .bool true]) ∧
      Kd.R k120 120 w' w.heap.size (fun _ => True) v2_ (l0_2 ++ [⟨a1, a2, 0⟩]) ∧ Kd.R Kd.string 9 w' w.heap.size (fun _ => True) v3_ [] ∧ Below w.heap.size w w' := by
  have HR := Aside0.mk hr0_2
  have HC := Aside0.mk hc0_2
  have HL := Aside0.mk hl
  have OK := Aside0.mk ho1
  have IOK := Aside0.mk ho2
  have HCR := Aside0.mk (show impl_copyRow.f a0_0 a0_1 l0_2 = some (a0_0, a0_1, l0_2) by unfold impl_copyRow.f impl_copyItems.f; rw [if_pos (by omega)]; rfl)
  obtain ⟨qs2, hq2⟩ : ∃ q, q = l0_2 ++ [⟨a1, a2, 0⟩] := ⟨_, rfl⟩
  have HQE := Aside0.mk hq2
  rw [← hq2]
  have HCR2 := Aside0.mk (show impl_copyRow.f a0_0 a0_1 qs2 = some (a0_0, a0_1, qs2) by rw [hq2]; unfold impl_copyRow.f impl_copyItems.f; rw [if_pos (by simp; omega)]; rfl)
  have t1 : ((l0_2.length : Int) == a0_1) = false := beq_eq_false_iff_ne.mpr hn
  have t2 : decide (0 ≤ ixOf l0_2 a1) = false := decide_eq_false (by omega)
  obtain ⟨x, hxx⟩ : ∃ q, q = ixOf l0_2 a1 := ⟨_, rfl⟩
  rw [← hxx] at t2
  have HXX := Aside0.mk hxx
  clear hr0_2 hc0_2 hl ho1 ho2 hx hn hxx hq2
  go_enter Try.func21, Try.ntmps21
  go_wp2_with (first | (go_at_call 77; refine (impl_RowOk.calls k a0_0 a0_1 A0_2 c0_2 l0_2 true _ (Kd.C_alloc (Kd.C_alloc HR.out _) _) HC.out OK.out).mono ?_; rintro e w1 ⟨rfl, hb⟩; have B1 := Aside0.mk (blk_below (blk_alloc (blk_new w _) _) hb); have B4 := Aside0.mk (show w1.heap[w.heap.size + 1]? = some (.cells #[.int .i64 0, .int .i64 0, .slice none 0 0] 34 (0, 0)) by have z := blk_below (blk_new (w.alloc _) _) hb; simpa using z); have HB := Aside0.mk (below_step ((Below.refl w.heap.size w).alloc (Nat.le_refl _) _ |>.alloc (by simp) _) hb); clear hb; obtain ⟨⟨p0, p1, p2⟩, q0, q1, q2⟩ := cells3 B1.out; obtain ⟨⟨p3, p4, p5⟩, q3, q4, q5⟩ := cells3 B4.out) | (go_at_call 78; refine (impl_ItemOk.calls k a1 a2 0 true _ IOK.out).mono ?_; rintro e w2 ⟨rfl, hb⟩; have C1 := Aside0.mk (blk_below B1.out hb); have C4 := Aside0.mk (blk_below B4.out hb); have HB2 := Aside0.mk (below_step HB.out hb); clear hb p0 p1 p2 p3 p4 p5 q0 q1 q2 q3 q4 q5; obtain ⟨⟨p0, p1, p2⟩, q0, q1, q2⟩ := cells3 C1.out; obtain ⟨⟨p3, p4, p5⟩, q3, q4, q5⟩ := cells3 C4.out) | (go_at_call 79; have _t := hapd; refine (impl_copyRow.calls a0_0 a0_1 A10 c10 qs2 a0_0 a0_1 qs2 _ (Kd.Q_reads' (Kd.Q_set HQ10.out K7.out (by decide) 2 _)).2.2 HC10.out HCR2.out).mono ?_; rintro e w11 ⟨v, rfl, hov, hb⟩; obtain ⟨Av11, cv11, rfl⟩ := Kd.R_slice hov; have HO11 := Aside0.mk (Kd.R_lower hov (show w.heap.size ≤ (w10.setCell _ _).heap.size by have := HB10.out.size; simp [World.setCell]; omega)); have M4 := Aside0.mk (blk_below (blk_far K4.out (show w.heap.size + 1 ≠ w3.heap.size from Nat.ne_of_lt HS3.out) _) hb); have HB11 := Aside0.mk (below_step (HB10.out.setCell (Nat.le_of_lt (Nat.lt_of_succ_lt HS3.out)) _) hb); have HG11 := Aside0.mk (Kd.R_below (Kd.R_set HG10.out K7.out (by decide) 2 _) hb); clear hb hov p3 p4 p5 p6 p7 p8 q3 q4 q5 q6 q7 q8; obtain ⟨⟨p3, p4, p5⟩, q3, q4, q5⟩ := cells3 M4.out) | (go_at_call 79; refine (impl_copyRow.calls a0_0 a0_1 A0_2 c0_2 l0_2 a0_0 a0_1 l0_2 _ (Kd.C_below HR.out HB2.out) HC.out HCR.out).mono ?_; rintro e w3 ⟨v, rfl, hov, hb⟩; obtain ⟨Av, cv, rfl⟩ := Kd.R_slice hov; have HOV := Aside0.mk (Kd.R_lower hov HB2.out.size); have D1 := Aside0.mk (blk_below C1.out hb); have D4 := Aside0.mk (blk_below C4.out hb); have HB3 := Aside0.mk (below_step HB2.out hb); have HS3 := Aside0.mk (show w.heap.size + 1 < w3.heap.size from blk_lt D4.out); clear hb hov p0 p1 p2 p3 p4 p5 q0 q1 q2 q3 q4 q5; obtain ⟨⟨p0, p1, p2⟩, q0, q1, q2⟩ := cells3 D1.out; obtain ⟨⟨p3, p4, p5⟩, q3, q4, q5⟩ := cells3 D4.out) | ((with_reducible refine gate_dst (N := 26) rfl ?_); refine Kd.R_lit Kd.string _ 9 ?hg (N := 26) ?hd (xs := ([] : List ByteArray)) (inner := []) (ok := fun _ => True) (okp := fun _ => True) ?hr ?hp (fun _ hk => hk) trivial (Below.refl _ _) (Nat.le_refl _) (by simp) ?_; (case hd => rfl); (case hg => rfl); (case hr => first | (go_simp; done) | (go_simp; rfl)); (case hp => exact (Reps.none _ _)); intro vg w4 hog hb hgx hnew; clear hgx hnew; have E1 := Aside0.mk (blk_below (blk_alloc D1.out _) hb); have E4 := Aside0.mk (blk_below (blk_alloc D4.out _) hb); have E7 := Aside0.mk (blk_below (blk_new w3 _) hb); have HB4 := Aside0.mk (below_step (HB3.out.alloc HB3.out.size _) hb); have HO4 := Aside0.mk (Kd.R_below (Kd.R_alloc HOV.out _) hb); have HG4 := Aside0.mk (Kd.R_lower hog (show w.heap.size ≤ (w3.alloc _).heap.size by have := HB3.out.size; simp; omega)); obtain ⟨Ag, cg, rfl⟩ := Kd.R_slice hog; clear hb hog p0 p1 p2 p3 p4 p5 q0 q1 q2 q3 q4 q5; obtain ⟨⟨p0, p1, p2⟩, q0, q1, q2⟩ := cells3 E1.out; obtain ⟨⟨p3, p4, p5⟩, q3, q4, q5⟩ := cells3 E4.out; obtain ⟨⟨p6, p7, p8⟩, q6, q7, q8⟩ := cells3 E7.out) | (go_at_call 80; refine (impl_itemAt.calls A0_2 c0_2 l0_2 a1 x _ (Kd.C_below HR.out HB4.out) HC.out (by unfold impl_itemAt.f; rw [HXX.out])).mono ?_; rintro e w5 ⟨rfl, hb⟩; have F1 := Aside0.mk (blk_below E1.out hb); have F4 := Aside0.mk (blk_below E4.out hb); have F7 := Aside0.mk (blk_below E7.out hb); have HB5 := Aside0.mk (below_step HB4.out hb); have HO5 := Aside0.mk (Kd.R_below HO4.out hb); have HG5 := Aside0.mk (Kd.R_below HG4.out hb); clear hb p0 p1 p2 p3 p4 p5 p6 p7 p8 q0 q1 q2 q3 q4 q5 q6 q7 q8; obtain ⟨⟨p0, p1, p2⟩, q0, q1, q2⟩ := cells3 F1.out; obtain ⟨⟨p3, p4, p5⟩, q3, q4, q5⟩ := cells3 F4.out; obtain ⟨⟨p6, p7, p8⟩, q6, q7, q8⟩ := cells3 F7.out; skip) | ((with_reducible refine gate_builtin (b := .append) (xs := #[.tmp 80, .tmp 84]) rfl ?_); at_builtin; refine Kd.Q_append k120 (w0 := w) w.heap.size rfl (.tmp 80) (.tmp 84) 32 120 (.agg #[(.string ⟨#[]⟩), (.string ⟨#[]⟩), (.int .i64 0)]) 40 rfl Try.underlying32 info120 rfl (by decide) (by omega) (.slice Av l0_2.length cv) l0_2 ⟨a1, a2, 0⟩ [.string a1, .string a2, .int .i64 0] (fun _ => True) (fun _ => False) rfl rfl ?aP (fun _ hk => hk.elim) ?aF ?aO ?aB ?aS ?aL ?_; (case aP => exact k120_mkM _ _ _ ⟨a1, a2, 0⟩); (case aF => exact (fun _ _ => trivial)); (case aO => exact (Kd.Q_of_R HO5.out)); (case aB => exact HB5.out); (case aS => exact HB5.out.size); (case aL => have := HL.out; omega); intro v10 w10 ho hb hg hat; rw [← HQE.out] at ho; obtain ⟨A10, c10, rfl, hc10⟩ := Kd.Q_slice ho; have HQ10 := Aside0.mk ho; have HC10 := Aside0.mk hc10; have HB10 := Aside0.mk hb; have K7 := Aside0.mk (blk_grown F7.out hg (Kd.Q_ne (Kd.Q_of_R HO5.out) F7.out (by decide))); have K4 := Aside0.mk (blk_grown F4.out hg (Kd.Q_ne (Kd.Q_of_R HO5.out) F4.out (by decide))); have HG10 := Aside0.mk (R_grownT HG5.out hg (Kd.Q_typed (Kd.Q_of_R HO5.out)) (by decide)); have hapd : True := trivial; clear ho hb hg hat hc10 p0 p1 p2 p3 p4 p5 p6 p7 p8 q0 q1 q2 q3 q4 q5 q6 q7 q8; obtain ⟨⟨p3, p4, p5⟩, q3, q4, q5⟩ := cells3 K4.out; obtain ⟨⟨p6, p7, p8⟩, q6, q7, q8⟩ := cells3 K7.out; have hgne : (w3.heap.size = w.heap.size + 1) = False := eq_false (Nat.ne_of_gt HS3.out)))
  refine bodyPost_ret (results_ctt rfl _ _ (w.heap.size + 1) 34 #[.int .i64 a0_0, .int .i64 a0_1, .slice Av11 qs2.length cv11] (0, 0) _ rfl (put3 M4.out _ _ _) Try.underlying34 rfl (by kernel_rfl)) rfl ?_
  exact ⟨_, _, rfl, R_put3 HO11.out M4.out (by decide) _ _ _, R_put3g HG11.out M4.out (by decide) _ _ _, below_put3 HB11.out (by omega) _ _ _⟩
set_option maxHeartbeats 8000000 in
set_option maxRecDepth 100000 in
theorem impl_RowPut.full (k : Nat) (a0_0 a0_1 : Int) (A0_2 : Option Addr) (c0_2 : Nat) (l0_2 : List S120) (a1 a2 : ByteArray) (q : List S120) (w : World) (hr0_2 : Kd.C k120 w A0_2 l0_2.length l0_2) (hc0_2 : l0_2.length ≤ c0_2) (hl : l0_2.length < 1000000)
    (ho1 : impl_RowOk.f k a0_0 a0_1 l0_2 = some true) (ho2 : impl_ItemOk.f k a1 a2 0 = some true) (hx : ixOf l0_2 a1 < 0) (hn : (l0_2.length : Int) = a0_1) (hq : spin (l0_2.length + 1) l0_2 = some q) :
    Calls Try.prog 21 #[.agg #[.int .i64 a0_0, .int .i64 a0_1, .slice A0_2 l0_2.length c0_2], .string a1, .string a2] w fun e w' => ∃ v2_ v3_ : Value, e = .returned (.tuple #[.agg #[.int .i64 a0_0, .int .i64 a0_1, v2_], v3_, .bool true]) ∧
      Kd.R k120 120 w' w.heap.size (fun _ => True) v2_ (q.tail ++ [⟨a1, a2, 0⟩]) ∧ Kd.R Kd.string 9 w' w.heap.size (fun _ => True) v3_ [(rd_T120 q 0).f0] ∧ Below w.heap.size w w' := by
  have HR := Aside0.mk hr0_2
  have HC := Aside0.mk hc0_2
  have HL := Aside0.mk hl
  have OK := Aside0.mk ho1
  have IOK := Aside0.mk ho2
  have HSP := Aside0.mk hq
  have HCR := Aside0.mk (show impl_copyRow.f a0_0 a0_1 l0_2 = some (a0_0, a0_1, l0_2) by unfold impl_copyRow.f impl_copyItems.f; rw [if_pos (by omega)]; rfl)
  have t1 : ((l0_2.length : Int) == a0_1) = true := beq_iff_eq.mpr hn
  have t2 : decide (0 ≤ ixOf l0_2 a1) = false := decide_eq_false (by omega)
  obtain ⟨x, hxx⟩ : ∃ q, q = ixOf l0_2 a1 := ⟨_, rfl⟩
  rw [← hxx] at t2
  have HXX := Aside0.mk hxx
  clear hr0_2 hc0_2 hl ho1 ho2 hx hn hxx hq
  go_enter Try.func21, Try.ntmps21
  go_wp2_with (first | (go_at_call 77; refine (impl_RowOk.calls k a0_0 a0_1 A0_2 c0_2 l0_2 true _ (Kd.C_alloc (Kd.C_alloc HR.out _) _) HC.out OK.out).mono ?_; rintro e w1 ⟨rfl, hb⟩; have B1 := Aside0.mk (blk_below (blk_alloc (blk_new w _) _) hb); have B4 := Aside0.mk (show w1.heap[w.heap.size + 1]? = some (.cells #[.int .i64 0, .int .i64 0, .slice none 0 0] 34 (0, 0)) by have z := blk_below (blk_new (w.alloc _) _) hb; simpa using z); have HB := Aside0.mk (below_step ((Below.refl w.heap.size w).alloc (Nat.le_refl _) _ |>.alloc (by simp) _) hb); clear hb; obtain ⟨⟨p0, p1, p2⟩, q0, q1, q2⟩ := cells3 B1.out; obtain ⟨⟨p3, p4, p5⟩, q3, q4, q5⟩ := cells3 B4.out) | (go_at_call 78; refine (impl_ItemOk.calls k a1 a2 0 true _ IOK.out).mono ?_; rintro e w2 ⟨rfl, hb⟩; have C1 := Aside0.mk (blk_below B1.out hb); have C4 := Aside0.mk (blk_below B4.out hb); have HB2 := Aside0.mk (below_step HB.out hb); clear hb p0 p1 p2 p3 p4 p5 q0 q1 q2 q3 q4 q5; obtain ⟨⟨p0, p1, p2⟩, q0, q1, q2⟩ := cells3 C1.out; obtain ⟨⟨p3, p4, p5⟩, q3, q4, q5⟩ := cells3 C4.out) | (go_at_call 79; refine (impl_copyRow.calls a0_0 a0_1 A0_2 c0_2 l0_2 a0_0 a0_1 l0_2 _ (Kd.C_below HR.out HB2.out) HC.out HCR.out).mono ?_; rintro e w3 ⟨v, rfl, hov, hb⟩; obtain ⟨Av, cv, rfl⟩ := Kd.R_slice hov; have HOV := Aside0.mk (Kd.R_lower hov HB2.out.size); have D1 := Aside0.mk (blk_below C1.out hb); have D4 := Aside0.mk (blk_below C4.out hb); have HB3 := Aside0.mk (below_step HB2.out hb); have HS3 := Aside0.mk (show w.heap.size + 1 < w3.heap.size from blk_lt D4.out); clear hb hov p0 p1 p2 p3 p4 p5 q0 q1 q2 q3 q4 q5; obtain ⟨⟨p0, p1, p2⟩, q0, q1, q2⟩ := cells3 D1.out; obtain ⟨⟨p3, p4, p5⟩, q3, q4, q5⟩ := cells3 D4.out) | ((with_reducible refine gate_dst (N := 26) rfl ?_); refine Kd.R_lit Kd.string _ 9 ?hg (N := 26) ?hd (xs := ([] : List ByteArray)) (inner := []) (ok := fun _ => True) (okp := fun _ => True) ?hr ?hp (fun _ hk => hk) trivial (Below.refl _ _) (Nat.le_refl _) (by simp) ?_; (case hd => rfl); (case hg => rfl); (case hr => first | (go_simp; done) | (go_simp; rfl)); (case hp => exact (Reps.none _ _)); intro vg w4 hog hb hgx hnew; clear hgx hnew; have E1 := Aside0.mk (blk_below (blk_alloc D1.out _) hb); have E4 := Aside0.mk (blk_below (blk_alloc D4.out _) hb); have E7 := Aside0.mk (blk_below (blk_new w3 _) hb); have HB4 := Aside0.mk (below_step (HB3.out.alloc HB3.out.size _) hb); have HO4 := Aside0.mk (Kd.R_below (Kd.R_alloc HOV.out _) hb); have HG4 := Aside0.mk (Kd.R_lower hog (show w.heap.size ≤ (w3.alloc _).heap.size by have := HB3.out.size; simp; omega)); obtain ⟨Ag, cg, rfl⟩ := Kd.R_slice hog; clear hb hog p0 p1 p2 p3 p4 p5 q0 q1 q2 q3 q4 q5; obtain ⟨⟨p0, p1, p2⟩, q0, q1, q2⟩ := cells3 E1.out; obtain ⟨⟨p3, p4, p5⟩, q3, q4, q5⟩ := cells3 E4.out; obtain ⟨⟨p6, p7, p8⟩, q6, q7, q8⟩ := cells3 E7.out) | (go_at_call 80; refine (impl_itemAt.calls A0_2 c0_2 l0_2 a1 x _ (Kd.C_below HR.out HB4.out) HC.out (by unfold impl_itemAt.f; rw [HXX.out])).mono ?_; rintro e w5 ⟨rfl, hb⟩; have F1 := Aside0.mk (blk_below E1.out hb); have F4 := Aside0.mk (blk_below E4.out hb); have F7 := Aside0.mk (blk_below E7.out hb); have HB5 := Aside0.mk (below_step HB4.out hb); have HO5 := Aside0.mk (Kd.R_below HO4.out hb); have HG5 := Aside0.mk (Kd.R_below HG4.out hb); clear hb p0 p1 p2 p3 p4 p5 p6 p7 p8 q0 q1 q2 q3 q4 q5 q6 q7 q8; obtain ⟨⟨p0, p1, p2⟩, q0, q1, q2⟩ := cells3 F1.out; obtain ⟨⟨p3, p4, p5⟩, q3, q4, q5⟩ := cells3 F4.out; obtain ⟨⟨p6, p7, p8⟩, q6, q7, q8⟩ := cells3 F7.out; skip))
  go_loopg [] (l0_2.length + 1) (fun kq w' => ∃ (xs : List S120) (A : Option Addr) (c : Nat), Aside0 (xs.length = l0_2.length) ∧ Aside0 (spin kq xs = some q) ∧ Aside0 (Kd.Q k120 120 w' w.heap.size (fun _ => True) (.slice A xs.length c) xs) ∧ Aside0 (w'.heap[w3.heap.size]? = some (.cells #[.int .i64 a0_0, .int .i64 a0_1, .slice A xs.length c] 34 (0, 0))) ∧ Aside0 (w'.heap[w.heap.size + 1]? = some (.cells #[.int .i64 0, .int .i64 0, .slice none 0 0] 34 (0, 0))) ∧ Aside0 (Kd.R Kd.string 9 w' w.heap.size (fun _ => True) (.slice Ag 0 cg) []) ∧ Aside0 (Below w.heap.size w w'))
  case atStart => exact ⟨l0_2, Av, cv, ⟨rfl⟩, HSP, ⟨Kd.Q_of_R HO5.out⟩, F7, F4, HG5, HB5⟩
  case round =>
    obtain ⟨xs, A, c, HN, HSK, HQ, L7, L4, HGL, HBL⟩ := hrel
    clear p0 p1 p2 p3 p4 p5 p6 p7 p8 q0 q1 q2 q3 q4 q5 q6 q7 q8 HO5 F7 F4 HG5 HB5 F1 E1 E4 E7 D1 D4 C1 C4 B1 B4 HB HB2 HB3 HB4 HO4 HG4 HOV HSP
    cases gk with
    | zero => exact absurd HSK.out (by simp [spin])
    | succ k1 =>
      cases xs with
      | nil => exact absurd HSK.out (by simp [spin])
      | cons y ys =>
        have hs := HSK.out
        simp only [spin] at hs
        obtain ⟨hn1, hc1, hC⟩ := Kd.Q_reads' HQ.out
        obtain ⟨ad, e1, h0, h1, h2⟩ := at_T120 hC 0 (by omega) (by simp)
        cases e1
        have ey : rd_T120 (y :: ys) 0 = y := rfl
        rw [ey] at h0 h1 h2
        have ez : ad.add ((0 : Int).toNat * 3) = ad := addr_add_zero ad
        rw [ez] at h0 h1 h2
        clear ez
        obtain ⟨⟨p6, p7, p8⟩, q6, q7, q8⟩ := cells3 L7.out
        by_cases hy : y.f2 = 1
        · rw [if_pos hy] at hs
          have HSN := Aside0.mk hs
          clear hs HSK hn1 hC ey
          obtain ⟨zs, hzs⟩ : ∃ z, z = ys ++ [(⟨y.f0, y.f1, 0⟩ : S120)] := ⟨_, rfl⟩
          have HZ := Aside0.mk hzs
          clear hzs
          have by1 : (y.f2 == 1) = true := beq_iff_eq.mpr hy
          clear hy
          have HA := Aside0.mk (blk_new wr (.cells #[.string y.f0, .string y.f1, .int .i64 0] 120))
          have HQ1 := Aside0.mk (Kd.Q_alloc HQ.out (.cells #[.string y.f0, .string y.f1, .int .i64 0] 120))
          have M7 := Aside0.mk (blk_alloc L7.out (.cells #[.string y.f0, .string y.f1, .int .i64 0] 120))
          have M4 := Aside0.mk (blk_alloc L4.out (.cells #[.string y.f0, .string y.f1, .int .i64 0] 120))
          have HG1 := Aside0.mk (Kd.R_alloc HGL.out (.cells #[.string y.f0, .string y.f1, .int .i64 0] 120))
          have HB1 := Aside0.mk (HBL.out.alloc HBL.out.size (.cells #[.string y.f0, .string y.f1, .int .i64 0] 120))
          have HNA0 := Kd.Q_lt HQ.out
          have HNA1 : Aside0 (∀ k, (Value.slice (some ad) (y :: ys).length c).ownBlock = some k → k < wr.heap.size) := ⟨HNA0⟩
          clear HNA0
          have HW7 : Aside0 (w3.heap.size < wr.heap.size) := ⟨blk_lt L7.out⟩
          go_wp2
          clear h0 h1 h2 p6 p7 p8 q6 q7 q8 HQ L7 L4 HGL HBL
          generalize hbx : wr.heap.size = bx at *
          generalize wr.alloc (.cells #[.string y.f0, .string y.f1, .int .i64 0] 120) = W at *
          clear hbx
          obtain ⟨i0, hi0, _, hsz0, _⟩ := info_parts info120
          have hcut0 := cut_from (P := Try.prog) 32 120 .i64 Try.underlying32 hi0 3 hsz0 (some ad) (y :: ys).length c 1 (by omega) (by simp; omega)
          have hr1 := Kd.Q_drop (k := (1 : Int).toNat) HQ1.out (by simp)
          obtain ⟨A1, hA1⟩ : ∃ A1, A1 = (if c = (1 : Int).toNat then (some ad) else (some ad : Option Addr).map (·.add ((1 : Int).toNat * 3))) := ⟨_, rfl⟩
          obtain ⟨c1, hcc1⟩ : ∃ c1, c1 = c - (1 : Int).toNat := ⟨_, rfl⟩
          rw [← hA1, ← hcc1] at hcut0
          have hr2 : Kd.Q k120 120 W w.heap.size (fun _ => True) (.slice A1 ys.length c1) ys := by rw [hA1, hcc1]; exact hr1
          have hcut : ∀ W_ : World, (Instr.slice 32 (.slice (some ad) (ys.length + 1) c) (some (.int .i64 1)) none none).run Try.prog W_ = .ok (.slice A1 ys.length c1) W_ := hcut0
          have HQ2 := Aside0.mk hr2
          have HNA : Aside0 (some bx ≠ (Value.slice A1 ys.length c1).ownBlock) := ⟨fun h => by
            have hb1 : (Value.slice A1 ys.length c1).ownBlock = (Value.slice (some ad) (y :: ys).length c).ownBlock := by
              rw [hA1]
              split
              · rfl
              · simp [Value.ownBlock]; unfold Addr.add; split <;> rfl
            rw [hb1] at h
            exact absurd (HNA1.out bx h.symm) (by omega)⟩
          clear hr1 hr2 hcut0 hA1 hcc1 HQ1 hi0 hsz0
          have s0 : W.cell? ⟨w3.heap.size, 2, none⟩ = some (.slice (some ad) (ys.length + 1) c) := (blk_cell M7.out 2).trans rfl
          have s1 : W.cell? ⟨bx, 0, none⟩ = some (.string y.f0) := (blk_cell HA.out 0).trans rfl
          have s2 : W.cell? ⟨bx, 1, none⟩ = some (.string y.f1) := (blk_cell HA.out 1).trans rfl
          have s3 : W.cell? ⟨bx, 2, none⟩ = some (.int .i64 0) := (blk_cell HA.out 2).trans rfl
          refine start_ (n := 8) (S := fun w' => w'.cell? ⟨w3.heap.size, 2, none⟩ = some (.slice (some ad) (ys.length + 1) c) ∧ w'.cell? ⟨bx, 0, none⟩ = some (.string y.f0) ∧ w'.cell? ⟨bx, 1, none⟩ = some (.string y.f1) ∧ w'.cell? ⟨bx, 2, none⟩ = some (.int .i64 0)) (ds := [7]) #[false, false, false, false, false, false, false, false] (by kernel_rfl) rfl rfl ⟨s0, s1, s2, s3⟩ (fun hHeld => ?_)
          clear s0 s1 s2 s3
          refine pure_ (i := 0) (N := some 60) (v := ?_) (a' := ?_) #[true, false, false, false, false, false, false, false] rfl rfl (by kernel_rfl) (fun _ _ _ h => h) (Or.inl ⟨by rfl, ?_⟩) ?_ ?_
          rotate_left
          · intro w'
            go_simp
            with_reducible rfl
          rotate_left
          · simp only [Act.put, lz1, lz2, lz3, i64_w, i32_w]
            rfl
          refine take_ (i := 1) (N := some 61) (v := ?_) (a' := ?_) #[true, true, false, false, false, false, false, false] rfl rfl (by kernel_rfl) (fun _ _ _ h => h) (Or.inl ⟨by rfl, ?_⟩) hHeld ?_ ?_
          rotate_left
          · rintro w' ⟨s0, s1, s2, s3⟩
            go_simp
            with_reducible rfl
          rotate_left
          · simp only [Act.put, lz1, lz2, lz3, i64_w, i32_w]
            rfl
          refine pure_ (i := 2) (N := some 62) (v := ?_) (a' := ?_) #[true, true, true, false, false, false, false, false] rfl rfl (by kernel_rfl) (fun _ _ _ h => h) (Or.inl ⟨by rfl, ?_⟩) ?_ ?_
          rotate_left
          · intro w'
            go_simp
            with_reducible rfl
          rotate_left
          · simp only [Act.put, lz1, lz2, lz3, i64_w, i32_w]
            rfl
          refine take_ (i := 3) (N := some 63) (v := ?_) (a' := ?_) #[true, true, true, true, false, false, false, false] rfl rfl (by kernel_rfl) (fun _ _ _ h => h) (Or.inl ⟨by rfl, ?_⟩) hHeld ?_ ?_
          rotate_left
          · rintro w' ⟨s0, s1, s2, s3⟩
            go_simp
            with_reducible rfl
          rotate_left
          · simp only [Act.put, lz1, lz2, lz3, i64_w, i32_w]
            rfl
          refine one_ (i := 4) (N := some 64) #[true, true, true, true, true, false, false, false] rfl rfl (by kernel_rfl) (by decide) (fun K hK => ?_)
          refine event_step (v := .slice (some ⟨W.drew.heap.size, 0, none⟩) 1 1) (w1 := W.drew.alloc (.cells #[.string y.f0, .string y.f1, .int .i64 0] 120)) rfl (by first | (go_simp; done) | (go_simp; rfl)) ?_
          have N7 := Aside0.mk (blk_alloc (blk_drew M7.out) (.cells #[.string y.f0, .string y.f1, .int .i64 0] 120))
          have NA := Aside0.mk (blk_alloc (blk_drew HA.out) (.cells #[.string y.f0, .string y.f1, .int .i64 0] 120))
          refine hK.out _ _ ⟨(blk_cell N7.out 2).trans rfl, (blk_cell NA.out 0).trans rfl, (blk_cell NA.out 1).trans rfl, (blk_cell NA.out 2).trans rfl⟩ (fun hHeld => ?_)
          clear hK K
          refine norm_ (a' := ?_) ?_ ?_
          rotate_left
          · show Act.put _ (some 64) _ = _
            simp only [Act.put, lz1, lz2, lz3, i64_w, i32_w]
            rfl
          refine one_ (i := 5) (N := some 65) #[true, true, true, true, true, true, false, false] rfl rfl (by kernel_rfl) (by decide) (fun K hK => ?_)
          refine Kd.Q_append_step k120 (w0 := w) w.heap.size rfl (.tmp 62) (.tmp 64) 32 120 (.agg #[(.string ⟨#[]⟩), (.string ⟨#[]⟩), (.int .i64 0)]) 40 rfl Try.underlying32 info120 rfl (by decide) (by omega) (.slice A1 ys.length c1) ys ⟨y.f0, y.f1, 0⟩ [.string y.f0, .string y.f1, .int .i64 0] (fun _ => True) (fun _ => False) rfl rfl (k120_mkM _ _ _ ⟨y.f0, y.f1, 0⟩) (fun _ hk => hk.elim) (fun _ _ => trivial) (Kd.Q_drew HQ2.out) HB1.out.drew HB1.out.size (by have := HL.out; have := HN.out; simp at this; omega) (fun v6 w6 ho hb hg hat => ?_)
          rw [show ys ++ [⟨y.f0, y.f1, 0⟩] = ys ++ [(⟨y.f0, y.f1, 0⟩ : S120)] from rfl, ← HZ.out] at ho
          obtain ⟨A6, c6, rfl, hc6⟩ := Kd.Q_slice ho
          have NE7 := Kd.Q_ne (Kd.Q_drew HQ2.out) (blk_drew M7.out) (by decide)
          have NE4 := Kd.Q_ne (Kd.Q_drew HQ2.out) (blk_drew M4.out) (by decide)
          have P7 := Aside0.mk (blk_grown (blk_drew M7.out) hg NE7)
          have P4 := Aside0.mk (blk_grown (blk_drew M4.out) hg NE4)
          have PG := Aside0.mk (R_grownT (Kd.R_drew HG1.out) hg (Kd.Q_typed (Kd.Q_drew HQ2.out)) (by decide))
          have PQ := Aside0.mk ho
          have PB := Aside0.mk hb
          have PA := Aside0.mk (blk_grown (blk_drew HA.out) hg HNA.out)
          refine hK.out _ _ ⟨(blk_cell P7.out 2).trans rfl, (blk_cell PA.out 0).trans rfl, (blk_cell PA.out 1).trans rfl, (blk_cell PA.out 2).trans rfl⟩ (fun hHeld => ?_)
          clear hK K
          refine norm_ (a' := ?_) ?_ ?_
          rotate_left
          · show Act.put _ (some 65) _ = _
            simp only [Act.put, lz1, lz2, lz3, i64_w, i32_w]
            rfl
          refine pure_ (i := 6) (N := some 66) (v := ?_) (a' := ?_) #[true, true, true, true, true, true, true, false] rfl rfl (by kernel_rfl) (fun _ _ _ h => h) (Or.inl ⟨by rfl, ?_⟩) ?_ ?_
          rotate_left
          · intro w'
            go_simp
            with_reducible rfl
          rotate_left
          · simp only [Act.put, lz1, lz2, lz3, i64_w, i32_w]
            rfl
          refine last_ (i := 7) (N := none) #[true, true, true, true, true, true, true, true] rfl rfl (by kernel_rfl) (by decide) (fun K hK => ?_)
          have s2 : w6.cell? ⟨w3.heap.size, 2, none⟩ = some (.slice (some ad) (ys.length + 1) c) := (blk_cell P7.out 2).trans rfl
          have f2 : w6.frozen? ⟨w3.heap.size, 2, none⟩ = false := blk_frozen P7.out 2
          refine skip_ rfl rfl (w1 := w6.setCell ⟨w3.heap.size, 2, none⟩ (.slice A6 zs.length c6)) (by go_simp) ?_
          refine hK.out _ _ ?_
          clear hK K s2 f2 ho hb hg hat
          refine done_ (by kernel_rfl) ?_
          go_wp2
          go_roundg k1
          case measure => omega
          case rel => exact ⟨zs, A6, c6, ⟨by rw [HZ.out]; have := HN.out; simp at this ⊢; omega⟩, ⟨by rw [HZ.out]; exact HSN.out⟩, ⟨Kd.Q_set PQ.out P7.out (by decide) 2 _⟩, ⟨blk_put P7.out 2 _ rfl⟩, ⟨blk_far P4.out (show w.heap.size + 1 ≠ w3.heap.size from Nat.ne_of_lt HS3.out) _⟩, ⟨Kd.R_set PG.out P7.out (by decide) 2 _⟩, ⟨PB.out.setCell (Nat.le_of_lt (Nat.lt_of_succ_lt HS3.out)) _⟩⟩
        · rw [if_neg hy] at hs
          obtain rfl := Option.some.inj hs
          clear hs HSK hn1 hC ey
          have by1 : (y.f2 == 1) = false := beq_eq_false_iff_ne.mpr hy
          clear hy
          have HYL := Aside0.mk (show ys.length < 1000000 by have h1_ := HN.out; have h2_ := HL.out; rw [List.length_cons] at h1_; omega)
          obtain ⟨i0, hi0, _, hsz0, _⟩ := info_parts info120
          have hcut0 := cut_from (P := Try.prog) 32 120 .i64 Try.underlying32 hi0 3 hsz0 (some ad) (y :: ys).length c 1 (by omega) (by simp; omega)
          have hr1 := Kd.Q_drop (k := (1 : Int).toNat) HQ.out (by simp)
          obtain ⟨A1, hA1⟩ : ∃ A1, A1 = (if c = (1 : Int).toNat then (some ad) else (some ad : Option Addr).map (·.add ((1 : Int).toNat * 3))) := ⟨_, rfl⟩
          obtain ⟨c1, hcc1⟩ : ∃ c1, c1 = c - (1 : Int).toNat := ⟨_, rfl⟩
          rw [← hA1, ← hcc1] at hcut0
          have hr2 : Kd.Q k120 120 wr w.heap.size (fun _ => True) (.slice A1 ys.length c1) ys := by rw [hA1, hcc1]; exact hr1
          have hcut : ∀ W_ : World, (Instr.slice 32 (.slice (some ad) (ys.length + 1) c) (some (.int .i64 1)) none none).run Try.prog W_ = .ok (.slice A1 ys.length c1) W_ := hcut0
          have HQ2 := Aside0.mk hr2
          clear hr1 hr2 hcut0 hA1 hcc1 hi0 hsz0
          obtain ⟨gl, hgl⟩ : ∃ z, z = [y.f0] := ⟨_, rfl⟩
          have HGE := Aside0.mk hgl
          obtain ⟨qs2, hq2⟩ : ∃ q, q = ys ++ [(⟨a1, a2, 0⟩ : S120)] := ⟨_, rfl⟩
          have HQE := Aside0.mk hq2
          have HCR2 := Aside0.mk (show impl_copyRow.f a0_0 a0_1 qs2 = some (a0_0, a0_1, qs2) by rw [hq2]; unfold impl_copyRow.f impl_copyItems.f; rw [if_pos (by have := HYL.out; simp; omega)]; rfl)
          clear hgl hq2
          go_wp2_with (first | ((with_reducible refine gate_builtin (b := .append) (xs := #[.tmp 67, .tmp 73]) rfl ?_); at_builtin; refine Kd.R_append Kd.string (w0 := w) w.heap.size rfl (.tmp 67) (.tmp 73) 23 9 (.string ⟨#[]⟩) 16 rfl Try.underlying23 info9 rfl (by decide) (by omega) (.slice Ag 0 cg) [] y.f0 [.string y.f0] (fun _ => True) (fun _ => False) rfl rfl ?gP (fun _ hk => hk.elim) ?gF ?gO ?gB ?gS ?gL ?_; (case gP => exact rfl); (case gF => exact (fun _ _ => trivial)); (case gO => exact HGL.out); (case gB => exact HBL.out); (case gS => exact HBL.out.size); (case gL => simp); intro v8 w8 ho hb hg hat; rw [List.nil_append, ← HGE.out] at ho; obtain ⟨A8, c8, rfl⟩ := Kd.R_slice ho; have UG := Aside0.mk ho; have UB := Aside0.mk hb; have U7 := Aside0.mk (blk_grown L7.out hg (Kd.R_ne HGL.out L7.out (by decide))); have U4 := Aside0.mk (blk_grown L4.out hg (Kd.R_ne HGL.out L4.out (by decide))); have UQ := Aside0.mk (Q_grownT HQ2.out hg (rtyped HGL.out) (by decide)); clear ho hb hg hat p6 p7 p8 q6 q7 q8 h0 h1 h2; obtain ⟨⟨p6, p7, p8⟩, q6, q7, q8⟩ := cells3 U7.out) | (go_at_call 79; have _t := hapd; refine (impl_copyRow.calls a0_0 a0_1 A10 c10 qs2 a0_0 a0_1 qs2 _ (Kd.Q_reads' (Kd.Q_set HQ10.out K7.out (by decide) 2 _)).2.2 HC10.out HCR2.out).mono ?_; rintro e w11 ⟨v, rfl, hov, hb⟩; obtain ⟨Av11, cv11, rfl⟩ := Kd.R_slice hov; have HO11 := Aside0.mk (Kd.R_lower hov (show w.heap.size ≤ (w10.setCell _ _).heap.size by have := HB10.out.size; simp [World.setCell]; omega)); have M4 := Aside0.mk (blk_below (blk_far K4.out (show w.heap.size + 1 ≠ w3.heap.size from Nat.ne_of_lt HS3.out) _) hb); have HB11 := Aside0.mk (below_step (HB10.out.setCell (Nat.le_of_lt (Nat.lt_of_succ_lt HS3.out)) _) hb); have HG11 := Aside0.mk (Kd.R_below (Kd.R_set HG10.out K7.out (by decide) 2 _) hb); clear hb hov p3 p4 p5 p6 p7 p8 q3 q4 q5 q6 q7 q8; obtain ⟨⟨p3, p4, p5⟩, q3, q4, q5⟩ := cells3 M4.out) | ((with_reducible refine gate_builtin (b := .append) (xs := #[.tmp 80, .tmp 84]) rfl ?_); at_builtin; refine Kd.Q_append k120 (w0 := w) w.heap.size rfl (.tmp 80) (.tmp 84) 32 120 (.agg #[(.string ⟨#[]⟩), (.string ⟨#[]⟩), (.int .i64 0)]) 40 rfl Try.underlying32 info120 rfl (by decide) (by omega) (.slice A1 ys.length c1) ys ⟨a1, a2, 0⟩ [.string a1, .string a2, .int .i64 0] (fun _ => True) (fun _ => False) rfl (by rw [show (w8.setCell ⟨w3.heap.size, 2, none⟩ (.slice A1 ys.length c1)).heap.size = w8.heap.size by simp [World.setCell]]; rfl) ?aP (fun _ hk => hk.elim) ?aF ?aO ?aB ?aS ?aL ?_; (case aP => exact k120_mkM _ _ _ ⟨a1, a2, 0⟩); (case aF => exact (fun _ _ => trivial)); (case aO => exact (Kd.Q_set UQ.out U7.out (by decide) 2 (.slice A1 ys.length c1))); (case aB => exact (UB.out.setCell (p := ⟨w3.heap.size, 2, none⟩) (Nat.le_of_lt (Nat.lt_of_succ_lt HS3.out)) (.slice A1 ys.length c1))); (case aS => exact (UB.out.setCell (p := ⟨w3.heap.size, 2, none⟩) (Nat.le_of_lt (Nat.lt_of_succ_lt HS3.out)) (.slice A1 ys.length c1)).size); (case aL => have := HYL.out; omega); intro v10 w10 ho hb hg hat; rw [← HQE.out] at ho; obtain ⟨A10, c10, rfl, hc10⟩ := Kd.Q_slice ho; have HQ10 := Aside0.mk ho; have HC10 := Aside0.mk hc10; have HB10 := Aside0.mk hb; have K7 := Aside0.mk (blk_grown (blk_put U7.out 2 (.slice A1 ys.length c1) rfl) hg (Kd.Q_ne (Kd.Q_set UQ.out U7.out (by decide) 2 (.slice A1 ys.length c1)) (blk_put U7.out 2 (.slice A1 ys.length c1) rfl) (by decide))); have K4 := Aside0.mk (blk_grown (blk_far U4.out (p := ⟨w3.heap.size, 2, none⟩) (show w.heap.size + 1 ≠ w3.heap.size from Nat.ne_of_lt HS3.out) (.slice A1 ys.length c1)) hg (Kd.Q_ne (Kd.Q_set UQ.out U7.out (by decide) 2 (.slice A1 ys.length c1)) (blk_far U4.out (p := ⟨w3.heap.size, 2, none⟩) (show w.heap.size + 1 ≠ w3.heap.size from Nat.ne_of_lt HS3.out) (.slice A1 ys.length c1)) (by decide))); have HG10 := Aside0.mk (R_grownT (Kd.R_set UG.out U7.out (by decide) 2 (.slice A1 ys.length c1)) hg (Kd.Q_typed (Kd.Q_set UQ.out U7.out (by decide) 2 (.slice A1 ys.length c1))) (by decide)); have hapd : True := trivial; clear ho hb hg hat hc10 p6 p7 p8 q6 q7 q8; obtain ⟨⟨p3, p4, p5⟩, q3, q4, q5⟩ := cells3 K4.out; obtain ⟨⟨p6, p7, p8⟩, q6, q7, q8⟩ := cells3 K7.out; have hgne : (w3.heap.size = w.heap.size + 1) = False := eq_false (Nat.ne_of_gt HS3.out)))
          refine bodyPost_ret (results_ctt rfl _ _ (w.heap.size + 1) 34 #[.int .i64 a0_0, .int .i64 a0_1, .slice Av11 qs2.length cv11] (0, 0) _ rfl (put3 M4.out _ _ _) Try.underlying34 rfl (by kernel_rfl)) rfl ?_
          exact ⟨_, _, rfl, by rw [show (y :: ys).tail ++ [(⟨a1, a2, 0⟩ : S120)] = qs2 from HQE.out.symm]; exact R_put3 HO11.out M4.out (by decide) _ _ _, by rw [show [(rd_T120 (y :: ys) 0).f0] = gl from HGE.out.symm]; exact R_put3g HG11.out M4.out (by decide) _ _ _, below_put3 HB11.out (by omega) _ _ _⟩
theorem impl_RowPut.calls (k : Nat) (a0_0 a0_1 : Int) (A0_2 : Option Addr) (c0_2 : Nat) (l0_2 : List S120) (a1 a2 : ByteArray) (r1 r2 : Int) (r3 : List S120) (r4 : List ByteArray) (r5 : Bool) (w : World) (hr0_2 : Kd.C k120 w A0_2 l0_2.length l0_2) (hc0_2 : l0_2.length ≤ c0_2) (h : impl_RowPut.f k a0_0 a0_1 l0_2 a1 a2 = some (r1, r2, r3, r4, r5)) :
    Calls Try.prog 21 #[.agg #[.int .i64 a0_0, .int .i64 a0_1, .slice A0_2 l0_2.length c0_2], .string a1, .string a2] w fun e w' => ∃ v2_ v3_ : Value, e = .returned (.tuple #[.agg #[.int .i64 r1, .int .i64 r2, v2_], v3_, .bool r5]) ∧ Kd.R k120 120 w' w.heap.size (fun _ => True) v2_ r3 ∧ Kd.R Kd.string 9 w' w.heap.size (fun _ => True) v3_ r4 ∧ Below w.heap.size w w' := by
  unfold impl_RowPut.f at h
  by_cases hl : l0_2.length < 1000000
  case neg => rw [if_neg hl] at h; exact absurd h (by simp)
  rw [if_pos hl] at h
  obtain ⟨ok, hok, h⟩ := Option.bind_eq_some_iff.mp h
  cases ok with
  | false =>
    replace h : some (0, 0, [], [], false) = some (r1, r2, r3, r4, r5) := h
    simp only [Option.some.injEq, Prod.mk.injEq] at h
    obtain ⟨rfl, rfl, rfl, rfl, rfl⟩ := h
    exact (impl_RowPut.no k a0_0 a0_1 A0_2 c0_2 l0_2 a1 a2 w hr0_2 hc0_2 (.inl hok)).mono fun e w' ⟨he, hb⟩ => ⟨_, _, he, Kd.R_nil _ _ _ _ _, Kd.R_nil _ _ _ _ _, hb⟩
  | true =>
    rw [if_pos rfl] at h
    obtain ⟨ok2, hok2, h⟩ := Option.bind_eq_some_iff.mp h
    cases ok2 with
    | false =>
      replace h : some (0, 0, [], [], false) = some (r1, r2, r3, r4, r5) := h
      simp only [Option.some.injEq, Prod.mk.injEq] at h
      obtain ⟨rfl, rfl, rfl, rfl, rfl⟩ := h
      exact (impl_RowPut.no k a0_0 a0_1 A0_2 c0_2 l0_2 a1 a2 w hr0_2 hc0_2 (.inr ⟨hok, hok2⟩)).mono fun e w' ⟨he, hb⟩ => ⟨_, _, he, Kd.R_nil _ _ _ _ _, Kd.R_nil _ _ _ _ _, hb⟩
    | true =>
      rw [if_pos rfl] at h
      by_cases hx : ixOf l0_2 a1 < 0
      · rw [if_pos hx] at h
        by_cases hn : (l0_2.length : Int) = a0_1
        · rw [if_pos hn] at h
          obtain ⟨q, hq, h⟩ := Option.bind_eq_some_iff.mp h
          simp only [Option.some.injEq, Prod.mk.injEq] at h
          obtain ⟨rfl, rfl, rfl, rfl, rfl⟩ := h
          exact impl_RowPut.full k a0_0 a0_1 A0_2 c0_2 l0_2 a1 a2 q w hr0_2 hc0_2 hl hok hok2 hx hn hq
        · rw [if_neg hn] at h
          simp only [Option.some.injEq, Prod.mk.injEq] at h
          obtain ⟨rfl, rfl, rfl, rfl, rfl⟩ := h
          exact impl_RowPut.more k a0_0 a0_1 A0_2 c0_2 l0_2 a1 a2 w hr0_2 hc0_2 hl hok hok2 hx hn
      · rw [if_neg hx] at h
        obtain ⟨i, hi, hil, _⟩ := ixOf_pos l0_2 a1 hx
        rw [hi] at h
        simp only [Option.some.injEq, Prod.mk.injEq] at h
        obtain ⟨rfl, rfl, rfl, rfl, rfl⟩ := h
        exact impl_RowPut.hit k a0_0 a0_1 A0_2 c0_2 l0_2 a1 a2 w hr0_2 hc0_2 hl hok hok2 i hil hi
def impl_RowKeys.l0 : Nat → List ByteArray → List (S120) → Int → Int → Option (List ByteArray)
  | 0, _, _, _, _ => none
  | k + 1, x3, x12, x13, x14 => if x14 < x13 then (if 0 ≤ x14 then (if x14 < (x12.length : Int) then (if x3.length < 8796093022208 then (impl_RowKeys.l0 k (x3 ++ [(rd_T120 x12 x14).f0]) x12 x13 (wrap64 (x14 + 1))) else (none)) else (none)) else (none)) else (some x3)
def impl_RowKeys.f (k : Nat) (a0_0 : Int) (a0_1 : Int) (l0_2 : List (S120)) : Option (List ByteArray) := (some (([] : List ByteArray) : List ByteArray)).bind fun y222 => ((impl_RowOk.f k a0_0 a0_1 l0_2).bind fun t225 => (if t225 = true then (impl_RowKeys.l0 k y222 l0_2 (l0_2.length : Int) 0) else (some y222)))
theorem impl_RowKeys.mono_l : ∀ k, (∀ y0 y1 y2 y3, LeO (impl_RowKeys.l0 k y0 y1 y2 y3) (impl_RowKeys.l0 (k + 1) y0 y1 y2 y3))
  | 0 => fun _ _ _ _ r h => by simp [impl_RowKeys.l0] at h
  | k + 1 => by
    have ih0 := impl_RowKeys.mono_l k
    · intro y0 y1 y2 y3
      unfold impl_RowKeys.l0
      repeat' first
      | (with_reducible exact ih0 _ _ _ _)
      | (with_reducible exact impl_RowOk.mono _ _ _ _)
      | (with_reducible exact LeO.refl _)
      | (with_reducible exact LeO.none _)
      | (with_reducible refine LeO.ite ?_ ?_)
      | (with_reducible refine LeO.bind ?_ (fun _ => ?_))
      | exact ih0 _ _ _ _
      | exact impl_RowOk.mono _ _ _ _
      | exact LeO.none _
      | refine LeO.ite ?_ ?_
      | refine LeO.bind ?_ (fun _ => ?_)
theorem impl_RowKeys.mono : ∀ a0 a1 a2 k, LeO (impl_RowKeys.f k a0 a1 a2) (impl_RowKeys.f (k + 1) a0 a1 a2) := by
  intro a0 a1 a2 k
  have ih0 := impl_RowKeys.mono_l k
  unfold impl_RowKeys.f
  repeat' first
      | (with_reducible exact ih0 _ _ _ _)
      | (with_reducible exact impl_RowOk.mono _ _ _ _)
      | (with_reducible exact LeO.refl _)
      | (with_reducible exact LeO.none _)
      | (with_reducible refine LeO.ite ?_ ?_)
      | (with_reducible refine LeO.bind ?_ (fun _ => ?_))
      | exact ih0 _ _ _ _
      | exact impl_RowOk.mono _ _ _ _
      | exact LeO.none _
      | refine LeO.ite ?_ ?_
      | refine LeO.bind ?_ (fun _ => ?_)
set_option maxHeartbeats 8000000 in
set_option maxRecDepth 100000 in
theorem impl_RowKeys.calls (k : Nat) (a0_0 : Int) (a0_1 : Int) (A0_2 : Option Addr) (c0_2 : Nat) (l0_2 : List (S120)) (r : List ByteArray) (w : World) (hr0_2 : Kd.C k120 w A0_2 l0_2.length l0_2) (hc0_2 : l0_2.length ≤ c0_2) (h : impl_RowKeys.f k a0_0 a0_1 l0_2 = some r) :
    Calls Try.prog 23 #[.agg #[.int .i64 a0_0, .int .i64 a0_1, .slice A0_2 l0_2.length c0_2]] w fun e w' => ∃ v0_ : Value, e = .returned (v0_) ∧ Kd.R Kd.string 9 w' w.heap.size (fun _ => True) v0_ r ∧ Below w.heap.size w w' := by
  have hu34 := Try.underlying34
  have hu120 := Try.underlying120
  have HR0_2 := Aside0.mk hr0_2
  have HC0_2 := Aside0.mk hc0_2
  clear hr0_2 hc0_2
  have HB := Aside0.mk (Below.refl w.heap.size w)
  have H : ((some (([] : List ByteArray) : List ByteArray)).bind fun y222 => ((impl_RowOk.f k a0_0 a0_1 l0_2).bind fun t225 => (if t225 = true then (impl_RowKeys.l0 k y222 l0_2 (l0_2.length : Int) 0) else (some y222)))) = some r := h
  clear h
  obtain ⟨y222, hy222⟩ : ∃ y_ : List ByteArray, y_ = (([] : List ByteArray)) := ⟨_, rfl⟩
  replace H : ((impl_RowOk.f k a0_0 a0_1 l0_2).bind fun t225 => (if t225 = true then (impl_RowKeys.l0 k y222 l0_2 (l0_2.length : Int) 0) else (some y222))) = some r := by first | (rw [hy222]; with_reducible exact H) | (have H2_ := (Option.bind_some _ _).symm.trans H; rw [hy222]; with_reducible exact H2_) | (have H2_ := (Option.bind_some _ _).symm.trans H; with_reducible exact H2_) | with_reducible exact H | (rw [hy222]; exact H) | exact H
  have Ny222 := Aside0.mk hy222
  clear hy222
  replace H := Option.bind_eq_some_iff.mp H
  obtain ⟨t225, A20, H⟩ := H
  replace H : (if t225 = true then (impl_RowKeys.l0 k y222 l0_2 (l0_2.length : Int) 0) else (some y222)) = some r := H
  have A2 := Aside0.mk A20
  clear A20
  by_cases c3 : t225 = true
  · subst c3
    have H1 : (impl_RowKeys.l0 k y222 l0_2 (l0_2.length : Int) 0) = some r := by rw [if_pos rfl] at H; exact H
    clear H
    have H := H1
    clear H1
    have H' := Aside0.mk H
    clear H
    go_enter Try.func23, Try.ntmps23
    go_wp2_with (first | ((with_reducible refine gate_dst (N := 1) rfl ?_); refine box_event ?hg (N := 1) ?hd (cs := #[.int .i64 a0_0, .int .i64 a0_1, .slice A0_2 l0_2.length c0_2]) (t := 34) ?hr ?_; (case hd => rfl); (case hg => rfl); (case hr => first | (go_simp; done) | (go_simp; rfl)); intro gb221 hg w4 hbox hb; have n0_ := Aside0.mk (below_step (by repeat (first | (with_reducible first | exact HB.out | apply below_alloc | apply pw_below_drewN | apply below_drew1) | exact HB.out)) hb); have n1_ := Aside0.mk (hbox); have n2_ := Aside0.mk ((by rw [hg]; exact (below_size (by repeat (first | (with_reducible first | exact HB.out | apply below_alloc | apply pw_below_drewN | apply below_drew1) | exact HB.out))) : w.heap.size ≤ gb221)); have n3_ := Aside0.mk ((by rw [hg]; exact (below_size (by repeat (first | (with_reducible first | exact HB.out | apply below_alloc | apply pw_below_drewN | apply below_drew1) | exact HB.out))) : w.heap.size ≤ gb221)); clear HB; have HB := n0_; have BK221 := n1_; have GW221 := n2_; have GE221 := n3_; clear n0_ n1_ n2_ n3_; clear hb hbox hg) | ((with_reducible refine gate_dst (N := 6) rfl ?_); refine Kd.R_lit Kd.string _ 9 ?hg (N := 6) ?hd (xs := ([] : List ByteArray)) (inner := []) (ok := fun _ => True) (okp := fun _ => True) ?hr ?hp (fun _ hk => hk) trivial (Below.refl _ _) (Nat.le_refl _) (by simp) ?_; (case hd => rfl); (case hg => rfl); (case hr => first | (go_simp; done) | (go_simp; rfl)); (case hp => exact (Reps.none _ _)); intro v223 w5 ho6 hb hg_ hnew_; clear hg_ hnew_; (first | rw [← Ny222.out] at ho6 | (simp only [Int.reduceToNat] at ho6; rw [← Ny222.out] at ho6)); have n0_ := Aside0.mk (Kd.R_lower ho6 (below_size (by repeat (first | (with_reducible first | exact HB.out | apply below_alloc | apply pw_below_drewN | apply below_drew1 | refine below_set ?_ GE221.out) | exact HB.out)))); have n1_ := Aside0.mk (blk_below (g := gb221) (o := .cells #[.int .i64 a0_0, .int .i64 a0_1, .slice A0_2 l0_2.length c0_2] 34 (0, 0)) (by (with_reducible repeat (first | refine blk_drewN ?_ _ | refine blk_drew ?_ | refine blk_alloc ?_ _)); exact BK221.out) hb); have n2_ := Aside0.mk (below_step (by repeat (first | (with_reducible first | exact HB.out | apply below_alloc | apply pw_below_drewN | apply below_drew1 | refine below_set ?_ GE221.out) | exact HB.out)) hb); clear BK221; clear HB; have HO224 := n0_; have BK221 := n1_; have HB := n2_; clear n0_ n1_ n2_; clear hb ho6; have hcz7_0 : w5.cell? ⟨gb221, 0, none⟩ = some (.int .i64 a0_0) := (blk_cell BK221.out 0).trans rfl; have hcz7_1 : w5.cell? ⟨gb221, 1, none⟩ = some (.int .i64 a0_1) := (blk_cell BK221.out 1).trans rfl; have hcz7_2 : w5.cell? ⟨gb221, 2, none⟩ = some (.slice A0_2 l0_2.length c0_2) := (blk_cell BK221.out 2).trans rfl; have hfz7_0 := blk_frozen BK221.out 0; have hfz7_1 := blk_frozen BK221.out 1; have hfz7_2 := blk_frozen BK221.out 2) | ((with_reducible refine gate_callee (f := 77) rfl ?_); refine goesL_ (some 8) rfl rfl Try.func77 (by kernel_rfl) rfl #[.agg #[.int .i64 a0_0, .int .i64 a0_1, .slice A0_2 l0_2.length c0_2]] rfl (by (try simp only [List.map_toArray, List.map_cons, List.map_nil]); first | done | rfl | (simp only [List.length_drop, List.length_take]; rfl)) ?_; (with_reducible refine (impl_RowOk.calls k a0_0 a0_1 _ _ l0_2 true _ ?side1 ?side2 A2.out).mono ?_); (case side1 => repeat (first | exact (Kd.C_below HR0_2.out HB.out) | (with_reducible refine Kd.C_alloc ?_ _) | (with_reducible refine Kd.C_drewN ?_ _) | (with_reducible refine Kd.C_drew ?_))); (case side2 => exact HC0_2.out); rintro e w8 ⟨rfl, hb⟩; refine ⟨_, rfl, ?_⟩; have n0_ := Aside0.mk (Kd.R_below (by (with_reducible repeat (first | apply Kd.R_alloc | apply Kd.R_drewN | apply Kd.R_drew)); exact HO224.out) hb); have n1_ := Aside0.mk (blk_below (g := gb221) (o := .cells #[.int .i64 a0_0, .int .i64 a0_1, .slice A0_2 l0_2.length c0_2] 34 (0, 0)) (by (with_reducible repeat (first | refine blk_drewN ?_ _ | refine blk_drew ?_ | refine blk_alloc ?_ _)); exact BK221.out) hb); have n2_ := Aside0.mk (below_step (by repeat (first | (with_reducible first | exact HB.out | apply below_alloc | apply pw_below_drewN | apply below_drew1 | refine below_set ?_ GE221.out) | exact HB.out)) hb); clear HO224; clear BK221; clear HB; have HO224 := n0_; have BK221 := n1_; have HB := n2_; clear n0_ n1_ n2_; (try clear hb); (try clear hb2); (try clear hk); (try clear hi); have hcz9_0 : w8.cell? ⟨gb221, 0, none⟩ = some (.int .i64 a0_0) := (blk_cell BK221.out 0).trans rfl; have hcz9_1 : w8.cell? ⟨gb221, 1, none⟩ = some (.int .i64 a0_1) := (blk_cell BK221.out 1).trans rfl; have hcz9_2 : w8.cell? ⟨gb221, 2, none⟩ = some (.slice A0_2 l0_2.length c0_2) := (blk_cell BK221.out 2).trans rfl; have hfz9_0 := blk_frozen BK221.out 0; have hfz9_1 := blk_frozen BK221.out 1; have hfz9_2 := blk_frozen BK221.out 2))
    go_loopg [3, 14] k (fun kq v3 v14 w' => ∃ (x3_1 : List ByteArray) (x14_1 : Int), v14 = .int .i64 x14_1 ∧ Aside0 (impl_RowKeys.l0 kq x3_1 l0_2 (l0_2.length : Int) x14_1 = some r) ∧ Aside0 (kq ≤ k) ∧ Aside0 (Kd.R Kd.string 9 w' w.heap.size (fun _ => True) v3 x3_1) ∧ Aside0 (w'.heap[gb221]? = some (.cells #[.int .i64 a0_0, .int .i64 a0_1, (.slice A0_2 l0_2.length c0_2)] 34 (0, 0))) ∧ Aside0 (Below w.heap.size w w'))
    case atStart => exact ⟨(y222), (0), (by first | rfl | (simp; done) | (simp [*]; done)), H', ⟨Nat.le_refl _⟩, ⟨by (with_reducible repeat (first | apply Kd.R_alloc | apply Kd.R_drewN | apply Kd.R_drew)); exact HO224.out⟩, ⟨by (with_reducible repeat (first | refine blk_drewN ?_ _ | refine blk_drew ?_ | refine blk_alloc ?_ _)); exact BK221.out⟩, ⟨by repeat (first | (with_reducible first | exact HB.out | apply below_alloc | apply pw_below_drewN | apply below_drew1 | refine below_set ?_ GE221.out) | exact HB.out)⟩⟩
    case round =>
      clear H'
      try clear c2
      try clear p2
      try clear c3
      try clear c7
      try clear hcz7_0
      try clear hcz7_1
      try clear hcz7_2
      try clear hcz9_0
      try clear hcz9_1
      try clear hcz9_2
      try clear hfz7_0
      try clear hfz7_1
      try clear hfz7_2
      try clear hfz9_0
      try clear hfz9_1
      try clear hfz9_2
      obtain ⟨x3_1, x14_1, rfl, HA, HK1, HO_3, BK221, HB⟩ := hrel
      cases gk with
      | zero => exact absurd HA.out (by simp [impl_RowKeys.l0])
      | succ k1 =>
        have H := HA.out
        clear HA
        simp only [impl_RowKeys.l0] at H
        by_cases c10 : x14_1 < (l0_2.length : Int)
        · rw [if_pos c10] at H
          have c10b0 : decide (x14_1 < (l0_2.length : Int)) = true := decide_eq_true c10
          clear c10
          by_cases c11 : 0 ≤ x14_1
          · rw [if_pos c11] at H
            have c11b0 : decide (0 ≤ x14_1) = true := decide_eq_true c11
            clear c11
            by_cases c12 : x14_1 < (l0_2.length : Int)
            · rw [if_pos c12] at H
              have c12b0 : decide (x14_1 < (l0_2.length : Int)) = true := decide_eq_true c12
              clear c12
              by_cases c13 : x3_1.length < 8796093022208
              · rw [if_pos c13] at H
                have LMc13 := Aside0.mk c13
                clear c13
                obtain ⟨y228, hy228⟩ : ∃ y_ : List ByteArray, y_ = (x3_1 ++ [(rd_T120 l0_2 x14_1).f0]) := ⟨_, rfl⟩
                replace H : (impl_RowKeys.l0 k1 y228 l0_2 (l0_2.length : Int) (wrap64 (x14_1 + 1))) = some r := by first | (rw [hy228]; with_reducible exact H) | (have H2_ := (Option.bind_some _ _).symm.trans H; rw [hy228]; with_reducible exact H2_) | (have H2_ := (Option.bind_some _ _).symm.trans H; with_reducible exact H2_) | with_reducible exact H | (rw [hy228]; exact H) | exact H
                have Ny228 := Aside0.mk hy228
                clear hy228
                have H' := Aside0.mk H
                clear H
                have p226 : 0 ≤ (x14_1 : Int) := of_decide_eq_true (by first | (with_reducible assumption) | assumption)
                have q226 : x14_1 < (l0_2.length : Int) := of_decide_eq_true (by first | (with_reducible assumption) | assumption)
                obtain ⟨ad226, e226, hx226_0, hx226_1, hx226_2⟩ := at_T120 HR0_2.out x14_1 p226 q226
                cases e226
                replace hx226_0 := (HB.out.cell (World.block_lt_of_cell? w _ hx226_0)).trans hx226_0
                replace hx226_1 := (HB.out.cell (World.block_lt_of_cell? w _ hx226_1)).trans hx226_1
                replace hx226_2 := (HB.out.cell (World.block_lt_of_cell? w _ hx226_2)).trans hx226_2
                replace p226 := eq_true p226
                replace q226 := eq_true q226
                go_wp2_with (first | ((with_reducible refine gate_dst (N := 5) rfl ?_); refine box_event ?hg (N := 5) ?hd (cs := #[.string (⟨#[]⟩ : ByteArray), .string (⟨#[]⟩ : ByteArray), .int .i64 0]) (t := 120) ?hr ?_; (case hd => rfl); (case hg => rfl); (case hr => first | (go_simp; done) | (go_simp; rfl)); intro gb227 hg w14 hbox hb; have n0_ := Aside0.mk (Kd.R_below (by (with_reducible repeat (first | apply Kd.R_alloc | apply Kd.R_drewN | apply Kd.R_drew)); exact HO_3.out) hb); have n1_ := Aside0.mk (blk_below (g := gb221) (o := .cells #[.int .i64 a0_0, .int .i64 a0_1, .slice (some ad226) l0_2.length c0_2] 34 (0, 0)) (by (with_reducible repeat (first | refine blk_drewN ?_ _ | refine blk_drew ?_ | refine blk_alloc ?_ _)); exact BK221.out) hb); have n2_ := Aside0.mk (below_step (by repeat (first | (with_reducible first | exact HB.out | apply below_alloc | apply pw_below_drewN | apply below_drew1 | refine below_set ?_ GE221.out) | exact HB.out)) hb); have n3_ := Aside0.mk (hbox); have n4_ := Aside0.mk ((by rw [hg]; exact (below_size (by repeat (first | (with_reducible first | exact HB.out | apply below_alloc | apply pw_below_drewN | apply below_drew1 | refine below_set ?_ GE221.out) | exact HB.out))) : w.heap.size ≤ gb227)); have n5_ := Aside0.mk ((by rw [hg]; exact (below_size (by repeat (first | (with_reducible first | exact HB.out | apply below_alloc | apply pw_below_drewN | apply below_drew1 | refine below_set ?_ GE221.out) | exact HB.out))) : w.heap.size ≤ gb227)); have n6_ := Aside0.mk ((by rw [hg]; exact Nat.ne_of_lt (blk_lt (g := gb221) (o := .cells #[.int .i64 a0_0, .int .i64 a0_1, .slice (some ad226) l0_2.length c0_2] 34 (0, 0)) (by (with_reducible repeat (first | refine blk_drewN ?_ _ | refine blk_drew ?_ | refine blk_alloc ?_ _)); exact BK221.out)) : gb221 ≠ gb227)); have n7_ := Aside0.mk ((by rw [hg]; exact Nat.ne_of_gt (blk_lt (g := gb221) (o := .cells #[.int .i64 a0_0, .int .i64 a0_1, .slice (some ad226) l0_2.length c0_2] 34 (0, 0)) (by (with_reducible repeat (first | refine blk_drewN ?_ _ | refine blk_drew ?_ | refine blk_alloc ?_ _)); exact BK221.out)) : gb227 ≠ gb221)); clear HO_3; clear BK221; clear HB; have HO_3 := n0_; have BK221 := n1_; have HB := n2_; have BK227 := n3_; have GW227 := n4_; have GE227 := n5_; have NB221_227 := n6_; have NB227_221 := n7_; clear n0_ n1_ n2_ n3_ n4_ n5_ n6_ n7_; clear hb hbox hg; have hnb15 := NB227_221.out; have hnc15 := NB221_227.out; have hcz16_0 : w14.cell? ⟨gb227, 0, none⟩ = some (.string (⟨#[]⟩ : ByteArray)) := (blk_cell BK227.out 0).trans rfl; have hcz16_1 : w14.cell? ⟨gb227, 1, none⟩ = some (.string (⟨#[]⟩ : ByteArray)) := (blk_cell BK227.out 1).trans rfl; have hcz16_2 : w14.cell? ⟨gb227, 2, none⟩ = some (.int .i64 0) := (blk_cell BK227.out 2).trans rfl; have hfz16_0 := blk_frozen BK227.out 0; have hfz16_1 := blk_frozen BK227.out 1; have hfz16_2 := blk_frozen BK227.out 2) | ((with_reducible refine gate_builtin (b := .append) (xs := #[.tmp 18, .tmp 21]) rfl ?_); at_builtin; refine Kd.R_append Kd.string (w0 := w) w.heap.size rfl (.tmp 18) (.tmp 21) 23 9 (.string ⟨#[]⟩) 16 rfl Try.underlying23 info9 rfl (by decide) (by omega) u3 x3_1 ((rd_T120 l0_2 x14_1).f0) [.string ((rd_T120 l0_2 x14_1).f0)] (fun _ => True) (fun _ => False) rfl (by first | (go_simp; done) | (go_simp; rfl)) ?aP (fun _ hk => hk.elim) ?aF ?aO ?aB ?aS ?aL ?_; (case aP => exact rfl); (case aB => exact (by repeat (first | (with_reducible first | exact HB.out | apply below_alloc | apply pw_below_drewN | apply below_drew1 | refine below_set ?_ GE221.out | refine below_set ?_ GE227.out) | exact HB.out))); (case aF => exact (fun _ _ => trivial)); (case aO => exact (by (with_reducible repeat (first | apply Kd.R_alloc | apply Kd.R_drewN | apply Kd.R_drew)); exact Kd.R_mono (Kd.R_far (p := ⟨gb227, 2, none⟩) (Kd.R_far (p := ⟨gb227, 1, none⟩) (Kd.R_far (p := ⟨gb227, 0, none⟩) (Kd.R_types HO_3.out BK227.out (by decide)) (fun _ hk => hk.2) (.string ((rd_T120 l0_2 x14_1).f0))) (fun _ hk => hk.2) (.string ((rd_T120 l0_2 x14_1).f1))) (fun _ hk => hk.2) (.int .i64 ((rd_T120 l0_2 x14_1).f2))) (fun _ hk => trivial))); (case aS => exact (below_size (by repeat (first | (with_reducible first | exact HB.out | apply below_alloc | apply pw_below_drewN | apply below_drew1 | refine below_set ?_ GE221.out | refine below_set ?_ GE227.out) | exact HB.out)))); (case aL => have := LMc13.out; omega); intro v229 w17 ho hb hg hat; rw [← Ny228.out] at ho; have n0_ := Aside0.mk (blk_grown (g := gb221) (o := .cells #[.int .i64 a0_0, .int .i64 a0_1, .slice (some ad226) l0_2.length c0_2] 34 (0, 0)) (by (with_reducible repeat (first | refine blk_drewN ?_ _ | refine blk_drew ?_ | refine blk_alloc ?_ _)); refine blk_far ?_ NB221_227.out _; (with_reducible repeat (first | refine blk_drewN ?_ _ | refine blk_drew ?_ | refine blk_alloc ?_ _)); refine blk_far ?_ NB221_227.out _; (with_reducible repeat (first | refine blk_drewN ?_ _ | refine blk_drew ?_ | refine blk_alloc ?_ _)); refine blk_far ?_ NB221_227.out _; (with_reducible repeat (first | refine blk_drewN ?_ _ | refine blk_drew ?_ | refine blk_alloc ?_ _)); exact BK221.out) hg (Kd.R_ne HO_3.out BK221.out (by decide))); have n1_ := Aside0.mk (blk_grown (g := gb227) (o := .cells #[.string ((rd_T120 l0_2 x14_1).f0), .string ((rd_T120 l0_2 x14_1).f1), .int .i64 ((rd_T120 l0_2 x14_1).f2)] 120 (0, 0)) (by (with_reducible repeat (first | refine blk_drewN ?_ _ | refine blk_drew ?_ | refine blk_alloc ?_ _)); refine blk_put (cs := #[.string ((rd_T120 l0_2 x14_1).f0), .string ((rd_T120 l0_2 x14_1).f1), .int .i64 0]) ?_ 2 _ rfl; (with_reducible repeat (first | refine blk_drewN ?_ _ | refine blk_drew ?_ | refine blk_alloc ?_ _)); refine blk_put (cs := #[.string ((rd_T120 l0_2 x14_1).f0), .string (⟨#[]⟩ : ByteArray), .int .i64 0]) ?_ 1 _ rfl; (with_reducible repeat (first | refine blk_drewN ?_ _ | refine blk_drew ?_ | refine blk_alloc ?_ _)); refine blk_put (cs := #[.string (⟨#[]⟩ : ByteArray), .string (⟨#[]⟩ : ByteArray), .int .i64 0]) ?_ 0 _ rfl; (with_reducible repeat (first | refine blk_drewN ?_ _ | refine blk_drew ?_ | refine blk_alloc ?_ _)); exact BK227.out) hg (Kd.R_ne HO_3.out BK227.out (by decide))); have n2_ := Aside0.mk (hb); have n3_ := Aside0.mk (ho); clear BK221; clear BK227; clear HB; clear HO_3; have BK221 := n0_; have BK227 := n1_; have HB := n2_; have HO230 := n3_; clear n0_ n1_ n2_ n3_; clear ho hb hg hat))
                go_roundg k1
                case measure => have := HK1.out; omega
                case rel => exact ⟨(y228), (wrap64 (x14_1 + 1)), (by first | rfl | (simp; done) | (simp [*]; done)), H', ⟨by have := HK1.out; omega⟩, ⟨by (with_reducible repeat (first | apply Kd.R_alloc | apply Kd.R_drewN | apply Kd.R_drew)); exact HO230.out⟩, ⟨by (with_reducible repeat (first | refine blk_drewN ?_ _ | refine blk_drew ?_ | refine blk_alloc ?_ _)); exact BK221.out⟩, ⟨by repeat (first | (with_reducible first | exact HB.out | apply below_alloc | apply pw_below_drewN | apply below_drew1 | refine below_set ?_ GE221.out | refine below_set ?_ GE227.out) | exact HB.out)⟩⟩
              · rw [if_neg c13] at H
                exact absurd H (by simp)
            · rw [if_neg c12] at H
              exact absurd H (by simp)
          · rw [if_neg c11] at H
            exact absurd H (by simp)
        · rw [if_neg c10] at H
          have c10b0 : decide (x14_1 < (l0_2.length : Int)) = false := decide_eq_false c10
          clear c10
          obtain rfl := Option.some.inj H
          go_wp2
          go_ret
          exact ⟨_, by first | rfl | (simp [errW_none, errW_some] <;> rfl) | (simp [*, errW_none, errW_some] <;> rfl), by (with_reducible repeat (first | apply Kd.R_alloc | apply Kd.R_drewN | apply Kd.R_drew)); exact HO_3.out, by repeat (first | (with_reducible first | exact HB.out | apply below_alloc | apply pw_below_drewN | apply below_drew1 | refine below_set ?_ GE221.out) | exact HB.out)⟩
  · replace c3 := Bool.eq_false_iff.mpr c3
    subst c3
    have H1 : (some y222) = some r := by rw [if_neg (show ¬ (false = true) by decide)] at H; exact H
    clear H
    have H := H1
    clear H1
    obtain rfl := Option.some.inj H
    go_enter Try.func23, Try.ntmps23
    go_wp2_with (first | ((with_reducible refine gate_dst (N := 1) rfl ?_); refine box_event ?hg (N := 1) ?hd (cs := #[.int .i64 a0_0, .int .i64 a0_1, .slice A0_2 l0_2.length c0_2]) (t := 34) ?hr ?_; (case hd => rfl); (case hg => rfl); (case hr => first | (go_simp; done) | (go_simp; rfl)); intro gb221 hg w18 hbox hb; have n0_ := Aside0.mk (below_step (by repeat (first | (with_reducible first | exact HB.out | apply below_alloc | apply pw_below_drewN | apply below_drew1) | exact HB.out)) hb); have n1_ := Aside0.mk (hbox); have n2_ := Aside0.mk ((by rw [hg]; exact (below_size (by repeat (first | (with_reducible first | exact HB.out | apply below_alloc | apply pw_below_drewN | apply below_drew1) | exact HB.out))) : w.heap.size ≤ gb221)); have n3_ := Aside0.mk ((by rw [hg]; exact (below_size (by repeat (first | (with_reducible first | exact HB.out | apply below_alloc | apply pw_below_drewN | apply below_drew1) | exact HB.out))) : w.heap.size ≤ gb221)); clear HB; have HB := n0_; have BK221 := n1_; have GW221 := n2_; have GE221 := n3_; clear n0_ n1_ n2_ n3_; clear hb hbox hg) | ((with_reducible refine gate_dst (N := 6) rfl ?_); refine Kd.R_lit Kd.string _ 9 ?hg (N := 6) ?hd (xs := ([] : List ByteArray)) (inner := []) (ok := fun _ => True) (okp := fun _ => True) ?hr ?hp (fun _ hk => hk) trivial (Below.refl _ _) (Nat.le_refl _) (by simp) ?_; (case hd => rfl); (case hg => rfl); (case hr => first | (go_simp; done) | (go_simp; rfl)); (case hp => exact (Reps.none _ _)); intro v223 w19 ho20 hb hg_ hnew_; clear hg_ hnew_; (first | rw [← Ny222.out] at ho20 | (simp only [Int.reduceToNat] at ho20; rw [← Ny222.out] at ho20)); have n0_ := Aside0.mk (Kd.R_lower ho20 (below_size (by repeat (first | (with_reducible first | exact HB.out | apply below_alloc | apply pw_below_drewN | apply below_drew1 | refine below_set ?_ GE221.out) | exact HB.out)))); have n1_ := Aside0.mk (blk_below (g := gb221) (o := .cells #[.int .i64 a0_0, .int .i64 a0_1, .slice A0_2 l0_2.length c0_2] 34 (0, 0)) (by (with_reducible repeat (first | refine blk_drewN ?_ _ | refine blk_drew ?_ | refine blk_alloc ?_ _)); exact BK221.out) hb); have n2_ := Aside0.mk (below_step (by repeat (first | (with_reducible first | exact HB.out | apply below_alloc | apply pw_below_drewN | apply below_drew1 | refine below_set ?_ GE221.out) | exact HB.out)) hb); clear BK221; clear HB; have HO224 := n0_; have BK221 := n1_; have HB := n2_; clear n0_ n1_ n2_; clear hb ho20; have hcz21_0 : w19.cell? ⟨gb221, 0, none⟩ = some (.int .i64 a0_0) := (blk_cell BK221.out 0).trans rfl; have hcz21_1 : w19.cell? ⟨gb221, 1, none⟩ = some (.int .i64 a0_1) := (blk_cell BK221.out 1).trans rfl; have hcz21_2 : w19.cell? ⟨gb221, 2, none⟩ = some (.slice A0_2 l0_2.length c0_2) := (blk_cell BK221.out 2).trans rfl; have hfz21_0 := blk_frozen BK221.out 0; have hfz21_1 := blk_frozen BK221.out 1; have hfz21_2 := blk_frozen BK221.out 2) | ((with_reducible refine gate_callee (f := 77) rfl ?_); refine goesL_ (some 8) rfl rfl Try.func77 (by kernel_rfl) rfl #[.agg #[.int .i64 a0_0, .int .i64 a0_1, .slice A0_2 l0_2.length c0_2]] rfl (by (try simp only [List.map_toArray, List.map_cons, List.map_nil]); first | done | rfl | (simp only [List.length_drop, List.length_take]; rfl)) ?_; (with_reducible refine (impl_RowOk.calls k a0_0 a0_1 _ _ l0_2 false _ ?side1 ?side2 A2.out).mono ?_); (case side1 => repeat (first | exact (Kd.C_below HR0_2.out HB.out) | (with_reducible refine Kd.C_alloc ?_ _) | (with_reducible refine Kd.C_drewN ?_ _) | (with_reducible refine Kd.C_drew ?_))); (case side2 => exact HC0_2.out); rintro e w22 ⟨rfl, hb⟩; refine ⟨_, rfl, ?_⟩; have n0_ := Aside0.mk (Kd.R_below (by (with_reducible repeat (first | apply Kd.R_alloc | apply Kd.R_drewN | apply Kd.R_drew)); exact HO224.out) hb); have n1_ := Aside0.mk (blk_below (g := gb221) (o := .cells #[.int .i64 a0_0, .int .i64 a0_1, .slice A0_2 l0_2.length c0_2] 34 (0, 0)) (by (with_reducible repeat (first | refine blk_drewN ?_ _ | refine blk_drew ?_ | refine blk_alloc ?_ _)); exact BK221.out) hb); have n2_ := Aside0.mk (below_step (by repeat (first | (with_reducible first | exact HB.out | apply below_alloc | apply pw_below_drewN | apply below_drew1 | refine below_set ?_ GE221.out) | exact HB.out)) hb); clear HO224; clear BK221; clear HB; have HO224 := n0_; have BK221 := n1_; have HB := n2_; clear n0_ n1_ n2_; (try clear hb); (try clear hb2); (try clear hk); (try clear hi)))
    go_ret
    exact ⟨_, by first | rfl | (simp [errW_none, errW_some] <;> rfl) | (simp [*, errW_none, errW_some] <;> rfl), by (with_reducible repeat (first | apply Kd.R_alloc | apply Kd.R_drewN | apply Kd.R_drew)); exact HO224.out, by repeat (first | (with_reducible first | exact HB.out | apply below_alloc | apply pw_below_drewN | apply below_drew1 | refine below_set ?_ GE221.out) | exact HB.out)⟩
def impl_isNum.f (a0 : Int) : Option (Bool) := (impl_within.f a0 0 4294967295).bind fun t197 => (some t197)
set_option maxHeartbeats 8000000 in
set_option maxRecDepth 100000 in
theorem impl_isNum.calls (a0 : Int) (r : Bool) (w : World) (h : impl_isNum.f a0 = some r) :
    Calls Try.prog 100 #[.int .i64 a0] w fun e w' => e = .returned (.bool r) ∧ Drawn0 w w' := by
  have H : ((impl_within.f a0 0 4294967295).bind fun t197 => (some t197)) = some r := h
  clear h
  replace H := Option.bind_eq_some_iff.mp H
  obtain ⟨t197, A20, H⟩ := H
  replace H : (some t197) = some r := H
  have A2 := Aside0.mk A20
  clear A20
  obtain rfl := Option.some.inj H
  go_enter Try.func100, Try.ntmps100
  go_wp2_with (first | ((with_reducible refine gate_callee (f := 82) rfl ?_); refine goesL_ (some 4) rfl rfl Try.func82 (by kernel_rfl) rfl #[.int .i64 a0, .int .i64 0, .int .i64 4294967295] rfl (by (try simp only [List.map_toArray, List.map_cons, List.map_nil]); first | done | rfl | (simp only [List.length_drop, List.length_take]; rfl)) ?_; (with_reducible refine (impl_within.calls a0 0 4294967295 t197 _ A2.out).mono ?_); rintro e w' ⟨rfl, ⟨nd, rfl⟩⟩; refine ⟨_, rfl, ?_⟩))
  go_ret
  exact ⟨by first | rfl | (simp; done) | (simp [*]; done), by repeat (first | exact Drawn0.refl _ | apply Drawn0.step)⟩
def slices_Index_int_int.l0 : Nat → List Int → Int → Int → Int → Option (Int)
  | 0, _, _, _, _ => none
  | k + 1, x0, x1, x7, x8 => if x8 < x7 then (if 0 ≤ x8 then (if x8 < (x0.length : Int) then (if x1 = (rd x0 x8) then (some x8) else (slices_Index_int_int.l0 k x0 x1 x7 (wrap64 (x8 + 1)))) else (none)) else (none)) else (some (-1))
def slices_Index_int_int.f (k : Nat) (l0 : List Int) (a1 : Int) : Option (Int) := slices_Index_int_int.l0 k l0 a1 (l0.length : Int) 0
theorem slices_Index_int_int.mono_l : ∀ k, (∀ y0 y1 y2 y3, LeO (slices_Index_int_int.l0 k y0 y1 y2 y3) (slices_Index_int_int.l0 (k + 1) y0 y1 y2 y3))
  | 0 => fun _ _ _ _ r h => by simp [slices_Index_int_int.l0] at h
  | k + 1 => by
    have ih0 := slices_Index_int_int.mono_l k
    · intro y0 y1 y2 y3
      unfold slices_Index_int_int.l0
      repeat' first
      | (with_reducible exact ih0 _ _ _ _)
      | (with_reducible exact LeO.refl _)
      | (with_reducible exact LeO.none _)
      | (with_reducible refine LeO.ite ?_ ?_)
      | (with_reducible refine LeO.bind ?_ (fun _ => ?_))
      | exact ih0 _ _ _ _
      | exact LeO.none _
      | refine LeO.ite ?_ ?_
      | refine LeO.bind ?_ (fun _ => ?_)
theorem slices_Index_int_int.mono : ∀ a0 a1 k, LeO (slices_Index_int_int.f k a0 a1) (slices_Index_int_int.f (k + 1) a0 a1) := by
  intro a0 a1 k
  have ih0 := slices_Index_int_int.mono_l k
  unfold slices_Index_int_int.f
  repeat' first
      | (with_reducible exact ih0 _ _ _ _)
      | (with_reducible exact LeO.refl _)
      | (with_reducible exact LeO.none _)
      | (with_reducible refine LeO.ite ?_ ?_)
      | (with_reducible refine LeO.bind ?_ (fun _ => ?_))
      | exact ih0 _ _ _ _
      | exact LeO.none _
      | refine LeO.ite ?_ ?_
      | refine LeO.bind ?_ (fun _ => ?_)
set_option maxHeartbeats 8000000 in
set_option maxRecDepth 100000 in
theorem slices_Index_int_int.calls (k : Nat) (A0 : Option Addr) (c0 : Nat) (l0 : List Int) (a1 : Int) (r : Int) (w : World) (hr0 : Kd.C (Kd.int .i64) w A0 l0.length l0) (hc0 : l0.length ≤ c0) (h : slices_Index_int_int.f k l0 a1 = some r) :
    Calls Try.prog 165 #[.slice A0 l0.length c0, .int .i64 a1] w fun e w' => e = .returned (.int .i64 r) ∧ Drawn0 w w' := by
  have HR0 := Aside0.mk hr0
  have HC0 := Aside0.mk hc0
  clear hr0 hc0
  have H : (slices_Index_int_int.l0 k l0 a1 (l0.length : Int) 0) = some r := h
  clear h
  have H' := Aside0.mk H
  clear H
  go_enter Try.func165, Try.ntmps165
  go_wp2
  go_loopg [8] k (fun kq v8 w' => ∃ (x8_1 : Int), v8 = .int .i64 x8_1 ∧ Aside0 (slices_Index_int_int.l0 kq l0 a1 (l0.length : Int) x8_1 = some r) ∧ Aside0 (kq ≤ k) ∧ Drawn0 w w')
  case atStart => exact ⟨(0), (by first | rfl | (simp; done) | (simp [*]; done)), H', ⟨Nat.le_refl _⟩, by repeat (first | exact Drawn0.refl _ | apply Drawn0.step)⟩
  case round =>
    clear H'
    try clear c1
    try clear p2
    obtain ⟨x8_1, rfl, HA, HK1, ⟨m1, rfl⟩⟩ := hrel
    cases gk with
    | zero => exact absurd HA.out (by simp [slices_Index_int_int.l0])
    | succ k1 =>
      have H := HA.out
      clear HA
      simp only [slices_Index_int_int.l0] at H
      by_cases c3 : x8_1 < (l0.length : Int)
      · rw [if_pos c3] at H
        have c3b0 : decide (x8_1 < (l0.length : Int)) = true := decide_eq_true c3
        clear c3
        by_cases c4 : 0 ≤ x8_1
        · rw [if_pos c4] at H
          have c4b0 : decide (0 ≤ x8_1) = true := decide_eq_true c4
          clear c4
          by_cases c5 : x8_1 < (l0.length : Int)
          · rw [if_pos c5] at H
            have c5b0 : decide (x8_1 < (l0.length : Int)) = true := decide_eq_true c5
            clear c5
            by_cases c6 : a1 = (rd l0 x8_1)
            · rw [if_pos c6] at H
              have c6b0 : (a1 == (rd l0 x8_1)) = true := beq_iff_eq.mpr c6
              have c6b1 : (a1 != (rd l0 x8_1)) = false := bne_eq_false_iff_eq.mpr c6
              clear c6
              obtain rfl := Option.some.inj H
              have p198 : 0 ≤ (x8_1 : Int) := of_decide_eq_true (by first | (with_reducible assumption) | assumption)
              have q198 : x8_1 < (l0.length : Int) := of_decide_eq_true (by first | (with_reducible assumption) | assumption)
              obtain ⟨ad198, e198, hx198_0⟩ := Kd.at_int HR0.out x8_1 p198 q198
              cases e198
              replace p198 := eq_true p198
              replace q198 := eq_true q198
              go_wp2
              go_ret
              exact ⟨by first | rfl | (simp; done) | (simp [*]; done), by repeat (first | exact Drawn0.refl _ | apply Drawn0.step)⟩
            · rw [if_neg c6] at H
              have c6b0 : (a1 == (rd l0 x8_1)) = false := beq_eq_false_iff_ne.mpr c6
              have c6b1 : (a1 != (rd l0 x8_1)) = true := bne_iff_ne.mpr c6
              have H' := Aside0.mk H
              clear H
              have p198 : 0 ≤ (x8_1 : Int) := of_decide_eq_true (by first | (with_reducible assumption) | assumption)
              have q198 : x8_1 < (l0.length : Int) := of_decide_eq_true (by first | (with_reducible assumption) | assumption)
              obtain ⟨ad198, e198, hx198_0⟩ := Kd.at_int HR0.out x8_1 p198 q198
              cases e198
              replace p198 := eq_true p198
              replace q198 := eq_true q198
              go_wp2
              go_roundg k1
              case measure => have := HK1.out; omega
              case rel => exact ⟨(wrap64 (x8_1 + 1)), (by first | rfl | (simp; done) | (simp [*]; done)), H', ⟨by have := HK1.out; omega⟩, by repeat (first | exact Drawn0.refl _ | apply Drawn0.step)⟩
          · rw [if_neg c5] at H
            exact absurd H (by simp)
        · rw [if_neg c4] at H
          exact absurd H (by simp)
      · rw [if_neg c3] at H
        have c3b0 : decide (x8_1 < (l0.length : Int)) = false := decide_eq_false c3
        clear c3
        obtain rfl := Option.some.inj H
        go_wp2
        go_ret
        exact ⟨by first | rfl | (simp; done) | (simp [*]; done), by repeat (first | exact Drawn0.refl _ | apply Drawn0.step)⟩
def slices_Contains_int_int.f (k : Nat) (l0 : List Int) (a1 : Int) : Option (Bool) := (slices_Index_int_int.f k l0 a1).bind fun t199 => (some (decide (t199 ≥ 0)))
theorem slices_Contains_int_int.mono : ∀ a0 a1 k, LeO (slices_Contains_int_int.f k a0 a1) (slices_Contains_int_int.f (k + 1) a0 a1) := by
  intro a0 a1 k
  unfold slices_Contains_int_int.f
  repeat' first
      | (with_reducible exact slices_Index_int_int.mono _ _ _)
      | (with_reducible exact LeO.refl _)
      | (with_reducible exact LeO.none _)
      | (with_reducible refine LeO.ite ?_ ?_)
      | (with_reducible refine LeO.bind ?_ (fun _ => ?_))
      | exact slices_Index_int_int.mono _ _ _
      | exact LeO.none _
      | refine LeO.ite ?_ ?_
      | refine LeO.bind ?_ (fun _ => ?_)
set_option maxHeartbeats 8000000 in
set_option maxRecDepth 100000 in
theorem slices_Contains_int_int.calls (k : Nat) (A0 : Option Addr) (c0 : Nat) (l0 : List Int) (a1 : Int) (r : Bool) (w : World) (hr0 : Kd.C (Kd.int .i64) w A0 l0.length l0) (hc0 : l0.length ≤ c0) (h : slices_Contains_int_int.f k l0 a1 = some r) :
    Calls Try.prog 107 #[.slice A0 l0.length c0, .int .i64 a1] w fun e w' => e = .returned (.bool r) ∧ Drawn0 w w' := by
  have HR0 := Aside0.mk hr0
  have HC0 := Aside0.mk hc0
  clear hr0 hc0
  have H : ((slices_Index_int_int.f k l0 a1).bind fun t199 => (some (decide (t199 ≥ 0)))) = some r := h
  clear h
  replace H := Option.bind_eq_some_iff.mp H
  obtain ⟨t199, A30, H⟩ := H
  replace H : (some (decide (t199 ≥ 0))) = some r := H
  have A3 := Aside0.mk A30
  clear A30
  obtain rfl := Option.some.inj H
  go_enter Try.func107, Try.ntmps107
  go_wp2_with (first | ((with_reducible refine gate_callee (f := 165) rfl ?_); refine goesL_ (some 7) rfl rfl Try.func165 (by kernel_rfl) rfl #[.slice A0 l0.length c0, .int .i64 a1] rfl (by (try simp only [List.map_toArray, List.map_cons, List.map_nil]); first | done | rfl | (simp only [List.length_drop, List.length_take]; rfl)) ?_; (with_reducible refine (slices_Index_int_int.calls k _ _ l0 a1 t199 _ ?side1 ?side2 A3.out).mono ?_); (case side1 => repeat (first | exact HR0.out | (with_reducible refine Kd.C_alloc ?_ _) | (with_reducible refine Kd.C_drewN ?_ _) | (with_reducible refine Kd.C_drew ?_))); (case side2 => exact HC0.out); rintro e w' ⟨rfl, ⟨nd, rfl⟩⟩; refine ⟨_, rfl, ?_⟩))
  go_ret
  exact ⟨by first | rfl | (simp; done) | (simp [*]; done), by repeat (first | exact Drawn0.refl _ | apply Drawn0.step)⟩
theorem cells5 {w : World} {g t : Nat} {a b c d e : Value} (h : w.heap[g]? = some (.cells #[a, b, c, d, e] t (0, 0))) : (w.cell? ⟨g, 0, none⟩ = some a ∧ w.cell? ⟨g, 1, none⟩ = some b ∧ w.cell? ⟨g, 2, none⟩ = some c ∧ w.cell? ⟨g, 3, none⟩ = some d ∧ w.cell? ⟨g, 4, none⟩ = some e) ∧ w.frozen? ⟨g, 0, none⟩ = false ∧ w.frozen? ⟨g, 1, none⟩ = false ∧ w.frozen? ⟨g, 2, none⟩ = false ∧ w.frozen? ⟨g, 3, none⟩ = false ∧ w.frozen? ⟨g, 4, none⟩ = false :=
  ⟨⟨(blk_cell h 0).trans rfl, (blk_cell h 1).trans rfl, (blk_cell h 2).trans rfl, (blk_cell h 3).trans rfl, (blk_cell h 4).trans rfl⟩, blk_frozen h 0, blk_frozen h 1, blk_frozen h 2, blk_frozen h 3, blk_frozen h 4⟩
set_option maxHeartbeats 8000000 in
set_option maxRecDepth 100000 in
theorem ghosts_raw (g : Nat) (cap most : Int) (V2 V3 V4 : Value) (w : World) (h : w.heap[g]? = some (.cells #[.int .i64 cap, .int .i64 most, V2, V3, V4] 75 (0, 0))) :
    Calls Try.prog 106 #[.pointer (some ⟨g, 0, none⟩)] w fun e w' => e = .returned (.int .i64 (mx 1 (wrap64 (cap - most)))) ∧ Below w.heap.size w w' := by
  obtain ⟨⟨p0, p1, p2, p3, p4⟩, q0, q1, q2, q3, q4⟩ := cells5 h
  clear h q2 q3 q4 p2 p3 p4
  have HB := Below.refl w.heap.size w
  obtain ⟨z, hz⟩ : ∃ z : Int, mx 1 (wrap64 (cap - most)) = z := ⟨_, rfl⟩
  have hz_ : (if 1 < (wrap64 (cap - most)) then (wrap64 (cap - most)) else 1) = z := hz
  rw [hz]
  go_enter Try.func106, Try.ntmps106
  go_wp2
  repeat (go_quiet (fail); try go_wp2)
  go_ret
  exact ⟨by first | rfl | simp [hz_], by repeat (first | exact HB | apply below_alloc | apply pw_below_drewN | apply below_drew1)⟩
def ghGood : List Int → List Int → Bool
  | _, [] => true
  | pre, x :: s => if 0 ≤ x ∧ x ≤ 4294967295 then (if x ∈ pre then false else ghGood (pre ++ [x]) s) else false
def impl_ThreeOk.f (k : Nat) (a0_0 a0_1 : Int) (l0_2 l0_3 : List S120) (l0_4 : List Int) : Option Bool :=
  if l0_2.length < 1000000 ∧ l0_3.length < 1000000 ∧ l0_4.length < 1000000 then
    if 1 ≤ a0_0 ∧ a0_0 ≤ 60 then if 1 ≤ a0_1 ∧ a0_1 ≤ a0_0 then
      if (l0_4.length : Int) > mx 1 (wrap64 (a0_0 - a0_1)) then some false
      else if ghGood [] l0_4 = true then (if ((l0_2 ++ l0_3).length : Int) ≤ a0_0 then impl_areItems.f k (l0_2 ++ l0_3) else some false) else some false
    else some false else some false
  else none
theorem impl_ThreeOk.mono : ∀ a0 a1 a2 a3 a4 k, LeO (impl_ThreeOk.f k a0 a1 a2 a3 a4) (impl_ThreeOk.f (k + 1) a0 a1 a2 a3 a4) := by
  intro a0 a1 a2 a3 a4 k
  unfold impl_ThreeOk.f
  refine LeO.ite (LeO.ite (LeO.ite (LeO.ite (LeO.refl _) (LeO.ite (LeO.ite (impl_areItems.mono _ _) (LeO.refl _)) (LeO.refl _))) (LeO.refl _)) (LeO.refl _)) (LeO.refl _)
theorem ix_loop_int (l : List Int) (a : Int) (hl : l.length < 1000000) : ∀ (n i : Nat), i + n = l.length → ∃ k r, slices_Index_int_int.l0 k l a (l.length : Int) (i : Int) = some r ∧ (r ≥ 0 ↔ a ∈ l.drop i) := by
  intro n
  induction n with
  | zero =>
    intro i hi
    refine ⟨1, -1, by simp only [slices_Index_int_int.l0, if_neg (show ¬ (i : Int) < (l.length : Int) by omega)], ?_⟩
    rw [List.drop_eq_nil_of_le (by omega)]; simp
  | succ n ih =>
    intro i hi
    have hlt : i < l.length := by omega
    have hx : rd l (i : Int) = l[i] := by simp [rd, hlt]
    by_cases c : a = l[i]
    · refine ⟨1, (i : Int), by simp only [slices_Index_int_int.l0, if_pos (show (i : Int) < (l.length : Int) by omega), if_pos (show 0 ≤ (i : Int) by omega), hx, if_pos c], ?_⟩
      rw [List.drop_eq_getElem_cons hlt, List.mem_cons]; exact ⟨fun _ => .inl c, fun _ => by omega⟩
    · obtain ⟨k, r, h1, h2⟩ := ih (i + 1) (by omega)
      refine ⟨k + 1, r, ?_, ?_⟩
      · simp only [slices_Index_int_int.l0, if_pos (show (i : Int) < (l.length : Int) by omega), if_pos (show 0 ≤ (i : Int) by omega), hx, if_neg c, show wrap64 ((i : Int) + 1) = ((i + 1 : Nat) : Int) by unfold wrap64; omega]
        exact h1
      · rw [h2, List.drop_eq_getElem_cons hlt, List.mem_cons]; exact ⟨fun h => .inr h, fun h => h.resolve_left c⟩
theorem contains_int (l : List Int) (a : Int) (hl : l.length < 1000000) : ∃ k, slices_Contains_int_int.f k l a = some (decide (a ∈ l)) := by
  obtain ⟨k, r, h1, h2⟩ := ix_loop_int l a hl l.length 0 (by omega)
  refine ⟨k, ?_⟩
  unfold slices_Contains_int_int.f slices_Index_int_int.f
  rw [show ((0 : Nat) : Int) = 0 from rfl] at h1
  rw [h1, Option.bind_some]
  congr 1
  exact decide_eq_decide.mpr (by simpa using h2)
theorem contains_take (l : List Int) (n : Nat) (hn : n ≤ l.length) (A : Option Addr) (c : Nat) (x : Int) (b : Bool) (W : World) (hC : Kd.C (Kd.int .i64) W A l.length l) (hc : l.length ≤ c) (hl : l.length < 1000000) (hb : decide (x ∈ l.take n) = b) :
    Calls Try.prog 107 #[.slice A n c, .int .i64 x] W fun e w' => e = .returned (.bool b) ∧ Drawn0 W w' := by
  obtain ⟨k, hk⟩ := contains_int (l.take n) x (by simp; omega)
  have hlen : (l.take n).length = n := by simp; omega
  have h := slices_Contains_int_int.calls k A c (l.take n) x b W (Kd.C_take hC hn) (by omega) (by rw [hk, hb])
  rw [hlen] at h
  exact h
set_option maxHeartbeats 8000000 in
set_option maxRecDepth 100000 in
theorem impl_ThreeOk.no1 (a0_0 a0_1 : Int) (A0_2 : Option Addr) (c0_2 : Nat) (l0_2 : List S120) (A0_3 : Option Addr) (c0_3 : Nat) (l0_3 : List S120) (A0_4 : Option Addr) (c0_4 : Nat) (l0_4 : List Int) (w : World) (h : ¬ (1 ≤ a0_0 ∧ a0_0 ≤ 60)) :
    Calls Try.prog 49 #[.agg #[.int .i64 a0_0, .int .i64 a0_1, .slice A0_2 l0_2.length c0_2, .slice A0_3 l0_3.length c0_3, .slice A0_4 l0_4.length c0_4]] w fun e w' => e = .returned (.bool false) ∧ Below w.heap.size w w' := by
  have HF := Aside0.mk (show impl_within.f a0_0 1 60 = some false by unfold impl_within.f; split <;> simp <;> omega)
  have HB := Aside0.mk ((Below.refl w.heap.size w).alloc (Nat.le_refl _) (.cells #[.int .i64 a0_0, .int .i64 a0_1, .slice A0_2 l0_2.length c0_2, .slice A0_3 l0_3.length c0_3, .slice A0_4 l0_4.length c0_4] 75))
  have BK := Aside0.mk (blk_new w (.cells #[.int .i64 a0_0, .int .i64 a0_1, .slice A0_2 l0_2.length c0_2, .slice A0_3 l0_3.length c0_3, .slice A0_4 l0_4.length c0_4] 75))
  go_enter Try.func49, Try.ntmps49
  go_wp2
  obtain ⟨⟨p0, p1, p2, p3, p4⟩, _⟩ := cells5 BK.out
  generalize w.alloc (.cells #[.int .i64 a0_0, .int .i64 a0_1, .slice A0_2 l0_2.length c0_2, .slice A0_3 l0_3.length c0_3, .slice A0_4 l0_4.length c0_4] 75) = W at *
  refine start_ (n := 19) (S := fun w' => w'.cell? ⟨w.heap.size, 0, none⟩ = some (.int .i64 a0_0) ∧ w'.cell? ⟨w.heap.size, 1, none⟩ = some (.int .i64 a0_1) ∧ w'.cell? ⟨w.heap.size, 4, none⟩ = some (.slice A0_4 l0_4.length c0_4)) (ds := []) #[false, false, false, false, false, false, false, false, false, false, false, false, false, false, false, false, false, false, false] (by kernel_rfl) rfl rfl ⟨p0, p1, p4⟩ (fun hHeld => ?_)
  clear p0 p1 p2 p3 p4
  refine pure_ (i := 0) (N := some 6) (v := ?_) (a' := ?_) #[true, false, false, false, false, false, false, false, false, false, false, false, false, false, false, false, false, false, false] rfl rfl (by kernel_rfl) (fun _ _ _ h => h) (Or.inl ⟨by rfl, ?_⟩) ?_ ?_
  rotate_left
  · intro w'
    go_simp
    with_reducible rfl
  rotate_left
  · simp only [Act.put, lz1, lz2, lz3, i64_w, i32_w]
    rfl
  refine take_ (i := 1) (N := some 7) (v := ?_) (a' := ?_) #[true, true, false, false, false, false, false, false, false, false, false, false, false, false, false, false, false, false, false] rfl rfl (by kernel_rfl) (fun _ _ _ h => h) (Or.inl ⟨by rfl, ?_⟩) hHeld ?_ ?_
  rotate_left
  · rintro w' ⟨s0, s1, s2⟩
    go_simp
    with_reducible rfl
  rotate_left
  · simp only [Act.put, lz1, lz2, lz3, i64_w, i32_w]
    rfl
  refine one_ (i := 2) (N := some 8) #[true, true, true, false, false, false, false, false, false, false, false, false, false, false, false, false, false, false, false] rfl rfl (by kernel_rfl) (by decide) (fun K hK => ?_)
  refine goes_ Try.func82 (by kernel_rfl) rfl #[.int .i64 a0_0, .int .i64 1, .int .i64 60] (by rfl) rfl rfl (by (try simp only [List.map_toArray, List.map_cons, List.map_nil]); first | done | rfl) ?_
  (with_reducible refine (impl_within.calls a0_0 1 60 false _ HF.out).mono ?_)
  rintro e w1 ⟨rfl, ⟨nd, rfl⟩⟩
  refine ⟨_, rfl, ?_⟩
  refine hK.out _ _ hHeld (fun hHeld => ?_)
  clear hK K
  refine norm_ (a' := ?_) ?_ ?_
  rotate_left
  · show Act.put _ (some 8) _ = _
    simp only [Act.put, lz1, lz2, lz3, i64_w, i32_w]
    rfl
  refine pure_ (i := 3) (N := some 9) (v := ?_) (a' := ?_) #[true, true, true, true, false, false, false, false, false, false, false, false, false, false, false, false, false, false, false] rfl rfl (by kernel_rfl) (fun _ _ _ h => h) (Or.inl ⟨by rfl, ?_⟩) ?_ ?_
  rotate_left
  · intro w'
    go_simp
    with_reducible rfl
  rotate_left
  · simp only [Act.put, lz1, lz2, lz3, i64_w, i32_w]
    rfl
  refine pure_ (i := 4) (N := some 10) (v := ?_) (a' := ?_) #[true, true, true, true, true, false, false, false, false, false, false, false, false, false, false, false, false, false, false] rfl rfl (by kernel_rfl) (fun _ _ _ h => h) (Or.inl ⟨by rfl, ?_⟩) ?_ ?_
  rotate_left
  · intro w'
    go_simp
    with_reducible rfl
  rotate_left
  · simp only [Act.put, lz1, lz2, lz3, i64_w, i32_w]
    rfl
  refine pure_ (i := 5) (N := some 11) (v := undef) (a' := ?_) #[true, true, true, true, true, true, false, false, false, false, false, false, false, false, false, false, false, false, false] rfl rfl (by kernel_rfl) (fun _ _ _ h => h) (Or.inr ⟨by rfl, rfl⟩) ?_ ?_
  rotate_left
  · simp only [Act.put, lz1, lz2, lz3, i64_w, i32_w]
    rfl
  refine pure_ (i := 6) (N := some 12) (v := undef) (a' := ?_) #[true, true, true, true, true, true, true, false, false, false, false, false, false, false, false, false, false, false, false] rfl rfl (by kernel_rfl) (fun _ _ _ h => h) (Or.inr ⟨by rfl, rfl⟩) ?_ ?_
  rotate_left
  · simp only [Act.put, lz1, lz2, lz3, i64_w, i32_w]
    rfl
  refine pure_ (i := 7) (N := some 13) (v := undef) (a' := ?_) #[true, true, true, true, true, true, true, true, false, false, false, false, false, false, false, false, false, false, false] rfl rfl (by kernel_rfl) (fun _ _ _ h => h) (Or.inr ⟨by rfl, rfl⟩) ?_ ?_
  rotate_left
  · simp only [Act.put, lz1, lz2, lz3, i64_w, i32_w]
    rfl
  refine pure_ (i := 8) (N := some 14) (v := undef) (a' := ?_) #[true, true, true, true, true, true, true, true, true, false, false, false, false, false, false, false, false, false, false] rfl rfl (by kernel_rfl) (fun _ _ _ h => h) (Or.inr ⟨by rfl, rfl⟩) ?_ ?_
  rotate_left
  · simp only [Act.put, lz1, lz2, lz3, i64_w, i32_w]
    rfl
  refine pure_ (i := 9) (N := some 15) (v := undef) (a' := ?_) #[true, true, true, true, true, true, true, true, true, true, false, false, false, false, false, false, false, false, false] rfl rfl (by kernel_rfl) (fun _ _ _ h => h) (Or.inr ⟨by rfl, rfl⟩) ?_ ?_
  rotate_left
  · simp only [Act.put, lz1, lz2, lz3, i64_w, i32_w]
    rfl
  refine pure_ (i := 10) (N := some 16) (v := undef) (a' := ?_) #[true, true, true, true, true, true, true, true, true, true, true, false, false, false, false, false, false, false, false] rfl rfl (by kernel_rfl) (fun _ _ _ h => h) (Or.inr ⟨by rfl, rfl⟩) ?_ ?_
  rotate_left
  · simp only [Act.put, lz1, lz2, lz3, i64_w, i32_w]
    rfl
  refine pure_ (i := 11) (N := some 17) (v := ?_) (a' := ?_) #[true, true, true, true, true, true, true, true, true, true, true, true, false, false, false, false, false, false, false] rfl rfl (by kernel_rfl) (fun _ _ _ h => h) (Or.inl ⟨by rfl, ?_⟩) ?_ ?_
  rotate_left
  · intro w'
    go_simp
    with_reducible rfl
  rotate_left
  · simp only [Act.put, lz1, lz2, lz3, i64_w, i32_w]
    rfl
  refine pure_ (i := 12) (N := some 18) (v := ?_) (a' := ?_) #[true, true, true, true, true, true, true, true, true, true, true, true, true, false, false, false, false, false, false] rfl rfl (by kernel_rfl) (fun _ _ _ h => h) (Or.inl ⟨by rfl, ?_⟩) ?_ ?_
  rotate_left
  · intro w'
    go_simp
    with_reducible rfl
  rotate_left
  · simp only [Act.put, lz1, lz2, lz3, i64_w, i32_w]
    rfl
  refine pure_ (i := 13) (N := some 19) (v := undef) (a' := ?_) #[true, true, true, true, true, true, true, true, true, true, true, true, true, true, false, false, false, false, false] rfl rfl (by kernel_rfl) (fun _ _ _ h => h) (Or.inr ⟨by rfl, rfl⟩) ?_ ?_
  rotate_left
  · simp only [Act.put, lz1, lz2, lz3, i64_w, i32_w]
    rfl
  refine pure_ (i := 14) (N := some 20) (v := undef) (a' := ?_) #[true, true, true, true, true, true, true, true, true, true, true, true, true, true, true, false, false, false, false] rfl rfl (by kernel_rfl) (fun _ _ _ h => h) (Or.inr ⟨by rfl, rfl⟩) ?_ ?_
  rotate_left
  · simp only [Act.put, lz1, lz2, lz3, i64_w, i32_w]
    rfl
  refine pure_ (i := 15) (N := some 21) (v := undef) (a' := ?_) #[true, true, true, true, true, true, true, true, true, true, true, true, true, true, true, true, false, false, false] rfl rfl (by kernel_rfl) (fun _ _ _ h => h) (Or.inr ⟨by rfl, rfl⟩) ?_ ?_
  rotate_left
  · simp only [Act.put, lz1, lz2, lz3, i64_w, i32_w]
    rfl
  refine pure_ (i := 16) (N := some 22) (v := undef) (a' := ?_) #[true, true, true, true, true, true, true, true, true, true, true, true, true, true, true, true, true, false, false] rfl rfl (by kernel_rfl) (fun _ _ _ h => h) (Or.inr ⟨by rfl, rfl⟩) ?_ ?_
  rotate_left
  · simp only [Act.put, lz1, lz2, lz3, i64_w, i32_w]
    rfl
  refine pure_ (i := 17) (N := some 23) (v := undef) (a' := ?_) #[true, true, true, true, true, true, true, true, true, true, true, true, true, true, true, true, true, true, false] rfl rfl (by kernel_rfl) (fun _ _ _ h => h) (Or.inr ⟨by rfl, rfl⟩) ?_ ?_
  rotate_left
  · simp only [Act.put, lz1, lz2, lz3, i64_w, i32_w]
    rfl
  refine pure_ (i := 18) (N := some 24) (v := ?_) (a' := ?_) #[true, true, true, true, true, true, true, true, true, true, true, true, true, true, true, true, true, true, true] rfl rfl (by kernel_rfl) (fun _ _ _ h => h) (Or.inl ⟨by rfl, ?_⟩) ?_ ?_
  rotate_left
  · intro w'
    go_simp
    with_reducible rfl
  rotate_left
  · simp only [Act.put, lz1, lz2, lz3, i64_w, i32_w]
    rfl
  refine done_ (by kernel_rfl) ?_
  go_wp2
  go_ret
  exact ⟨rfl, pw_below_drewN HB.out.drew nd⟩
set_option maxHeartbeats 8000000 in
set_option maxRecDepth 100000 in
theorem impl_ThreeOk.no2 (a0_0 a0_1 : Int) (A0_2 : Option Addr) (c0_2 : Nat) (l0_2 : List S120) (A0_3 : Option Addr) (c0_3 : Nat) (l0_3 : List S120) (A0_4 : Option Addr) (c0_4 : Nat) (l0_4 : List Int) (w : World) (h : 1 ≤ a0_0 ∧ a0_0 ≤ 60) (h2 : ¬ (1 ≤ a0_1 ∧ a0_1 ≤ a0_0)) :
    Calls Try.prog 49 #[.agg #[.int .i64 a0_0, .int .i64 a0_1, .slice A0_2 l0_2.length c0_2, .slice A0_3 l0_3.length c0_3, .slice A0_4 l0_4.length c0_4]] w fun e w' => e = .returned (.bool false) ∧ Below w.heap.size w w' := by
  have HF := Aside0.mk (show impl_within.f a0_0 1 60 = some true by unfold impl_within.f; rw [if_pos (by omega)]; simp; omega)
  have HF2 := Aside0.mk (show impl_within.f a0_1 1 a0_0 = some false by unfold impl_within.f; split <;> simp <;> omega)
  have HB := Aside0.mk ((Below.refl w.heap.size w).alloc (Nat.le_refl _) (.cells #[.int .i64 a0_0, .int .i64 a0_1, .slice A0_2 l0_2.length c0_2, .slice A0_3 l0_3.length c0_3, .slice A0_4 l0_4.length c0_4] 75))
  have BK := Aside0.mk (blk_new w (.cells #[.int .i64 a0_0, .int .i64 a0_1, .slice A0_2 l0_2.length c0_2, .slice A0_3 l0_3.length c0_3, .slice A0_4 l0_4.length c0_4] 75))
  go_enter Try.func49, Try.ntmps49
  go_wp2
  obtain ⟨⟨p0, p1, p2, p3, p4⟩, _⟩ := cells5 BK.out
  generalize w.alloc (.cells #[.int .i64 a0_0, .int .i64 a0_1, .slice A0_2 l0_2.length c0_2, .slice A0_3 l0_3.length c0_3, .slice A0_4 l0_4.length c0_4] 75) = W at *
  refine start_ (n := 19) (S := fun w' => w'.cell? ⟨w.heap.size, 0, none⟩ = some (.int .i64 a0_0) ∧ w'.cell? ⟨w.heap.size, 1, none⟩ = some (.int .i64 a0_1) ∧ w'.cell? ⟨w.heap.size, 4, none⟩ = some (.slice A0_4 l0_4.length c0_4)) (ds := []) #[false, false, false, false, false, false, false, false, false, false, false, false, false, false, false, false, false, false, false] (by kernel_rfl) rfl rfl ⟨p0, p1, p4⟩ (fun hHeld => ?_)
  clear p0 p1 p2 p3 p4
  refine pure_ (i := 0) (N := some 6) (v := ?_) (a' := ?_) #[true, false, false, false, false, false, false, false, false, false, false, false, false, false, false, false, false, false, false] rfl rfl (by kernel_rfl) (fun _ _ _ h => h) (Or.inl ⟨by rfl, ?_⟩) ?_ ?_
  rotate_left
  · intro w'
    go_simp
    with_reducible rfl
  rotate_left
  · simp only [Act.put, lz1, lz2, lz3, i64_w, i32_w]
    rfl
  refine take_ (i := 1) (N := some 7) (v := ?_) (a' := ?_) #[true, true, false, false, false, false, false, false, false, false, false, false, false, false, false, false, false, false, false] rfl rfl (by kernel_rfl) (fun _ _ _ h => h) (Or.inl ⟨by rfl, ?_⟩) hHeld ?_ ?_
  rotate_left
  · rintro w' ⟨s0, s1, s2⟩
    go_simp
    with_reducible rfl
  rotate_left
  · simp only [Act.put, lz1, lz2, lz3, i64_w, i32_w]
    rfl
  refine one_ (i := 2) (N := some 8) #[true, true, true, false, false, false, false, false, false, false, false, false, false, false, false, false, false, false, false] rfl rfl (by kernel_rfl) (by decide) (fun K hK => ?_)
  refine goes_ Try.func82 (by kernel_rfl) rfl #[.int .i64 a0_0, .int .i64 1, .int .i64 60] (by rfl) rfl rfl (by (try simp only [List.map_toArray, List.map_cons, List.map_nil]); first | done | rfl) ?_
  (with_reducible refine (impl_within.calls a0_0 1 60 true _ HF.out).mono ?_)
  rintro e w1 ⟨rfl, ⟨nd, rfl⟩⟩
  refine ⟨_, rfl, ?_⟩
  refine hK.out _ _ hHeld (fun hHeld => ?_)
  clear hK K
  refine norm_ (a' := ?_) ?_ ?_
  rotate_left
  · show Act.put _ (some 8) _ = _
    simp only [Act.put, lz1, lz2, lz3, i64_w, i32_w]
    rfl
  refine pure_ (i := 3) (N := some 9) (v := ?_) (a' := ?_) #[true, true, true, true, false, false, false, false, false, false, false, false, false, false, false, false, false, false, false] rfl rfl (by kernel_rfl) (fun _ _ _ h => h) (Or.inl ⟨by rfl, ?_⟩) ?_ ?_
  rotate_left
  · intro w'
    go_simp
    with_reducible rfl
  rotate_left
  · simp only [Act.put, lz1, lz2, lz3, i64_w, i32_w]
    rfl
  refine pure_ (i := 4) (N := some 10) (v := ?_) (a' := ?_) #[true, true, true, true, true, false, false, false, false, false, false, false, false, false, false, false, false, false, false] rfl rfl (by kernel_rfl) (fun _ _ _ h => h) (Or.inl ⟨by rfl, ?_⟩) ?_ ?_
  rotate_left
  · intro w'
    go_simp
    with_reducible rfl
  rotate_left
  · simp only [Act.put, lz1, lz2, lz3, i64_w, i32_w]
    rfl
  refine pure_ (i := 5) (N := some 11) (v := ?_) (a' := ?_) #[true, true, true, true, true, true, false, false, false, false, false, false, false, false, false, false, false, false, false] rfl rfl (by kernel_rfl) (fun _ _ _ h => h) (Or.inl ⟨by rfl, ?_⟩) ?_ ?_
  rotate_left
  · intro w'
    go_simp
    with_reducible rfl
  rotate_left
  · simp only [Act.put, lz1, lz2, lz3, i64_w, i32_w]
    rfl
  refine pure_ (i := 7) (N := some 13) (v := ?_) (a' := ?_) #[true, true, true, true, true, true, false, true, false, false, false, false, false, false, false, false, false, false, false] rfl rfl (by kernel_rfl) (fun _ _ _ h => h) (Or.inl ⟨by rfl, ?_⟩) ?_ ?_
  rotate_left
  · intro w'
    go_simp
    with_reducible rfl
  rotate_left
  · simp only [Act.put, lz1, lz2, lz3, i64_w, i32_w]
    rfl
  refine take_ (i := 6) (N := some 12) (v := ?_) (a' := ?_) #[true, true, true, true, true, true, true, true, false, false, false, false, false, false, false, false, false, false, false] rfl rfl (by kernel_rfl) (fun _ _ _ h => h) (Or.inl ⟨by rfl, ?_⟩) hHeld ?_ ?_
  rotate_left
  · rintro w' ⟨s0, s1, s2⟩
    go_simp
    with_reducible rfl
  rotate_left
  · simp only [Act.put, lz1, lz2, lz3, i64_w, i32_w]
    rfl
  refine take_ (i := 8) (N := some 14) (v := ?_) (a' := ?_) #[true, true, true, true, true, true, true, true, true, false, false, false, false, false, false, false, false, false, false] rfl rfl (by kernel_rfl) (fun _ _ _ h => h) (Or.inl ⟨by rfl, ?_⟩) hHeld ?_ ?_
  rotate_left
  · rintro w' ⟨s0, s1, s2⟩
    go_simp
    with_reducible rfl
  rotate_left
  · simp only [Act.put, lz1, lz2, lz3, i64_w, i32_w]
    rfl
  refine one_ (i := 9) (N := some 15) #[true, true, true, true, true, true, true, true, true, true, false, false, false, false, false, false, false, false, false] rfl rfl (by kernel_rfl) (by decide) (fun K hK => ?_)
  refine goes_ Try.func82 (by kernel_rfl) rfl #[.int .i64 a0_1, .int .i64 1, .int .i64 a0_0] (by rfl) rfl rfl (by (try simp only [List.map_toArray, List.map_cons, List.map_nil]); first | done | rfl) ?_
  (with_reducible refine (impl_within.calls a0_1 1 a0_0 false _ HF2.out).mono ?_)
  rintro e w1 ⟨rfl, ⟨nd2, rfl⟩⟩
  refine ⟨_, rfl, ?_⟩
  refine hK.out _ _ hHeld (fun hHeld => ?_)
  clear hK K
  refine norm_ (a' := ?_) ?_ ?_
  rotate_left
  · show Act.put _ (some 15) _ = _
    simp only [Act.put, lz1, lz2, lz3, i64_w, i32_w]
    rfl
  refine pure_ (i := 10) (N := some 16) (v := ?_) (a' := ?_) #[true, true, true, true, true, true, true, true, true, true, true, false, false, false, false, false, false, false, false] rfl rfl (by kernel_rfl) (fun _ _ _ h => h) (Or.inl ⟨by rfl, ?_⟩) ?_ ?_
  rotate_left
  · intro w'
    go_simp
    with_reducible rfl
  rotate_left
  · simp only [Act.put, lz1, lz2, lz3, i64_w, i32_w]
    rfl
  refine pure_ (i := 11) (N := some 17) (v := ?_) (a' := ?_) #[true, true, true, true, true, true, true, true, true, true, true, true, false, false, false, false, false, false, false] rfl rfl (by kernel_rfl) (fun _ _ _ h => h) (Or.inl ⟨by rfl, ?_⟩) ?_ ?_
  rotate_left
  · intro w'
    go_simp
    with_reducible rfl
  rotate_left
  · simp only [Act.put, lz1, lz2, lz3, i64_w, i32_w]
    rfl
  refine pure_ (i := 12) (N := some 18) (v := ?_) (a' := ?_) #[true, true, true, true, true, true, true, true, true, true, true, true, true, false, false, false, false, false, false] rfl rfl (by kernel_rfl) (fun _ _ _ h => h) (Or.inl ⟨by rfl, ?_⟩) ?_ ?_
  rotate_left
  · intro w'
    go_simp
    with_reducible rfl
  rotate_left
  · simp only [Act.put, lz1, lz2, lz3, i64_w, i32_w]
    rfl
  refine pure_ (i := 13) (N := some 19) (v := undef) (a' := ?_) #[true, true, true, true, true, true, true, true, true, true, true, true, true, true, false, false, false, false, false] rfl rfl (by kernel_rfl) (fun _ _ _ h => h) (Or.inr ⟨by rfl, rfl⟩) ?_ ?_
  rotate_left
  · simp only [Act.put, lz1, lz2, lz3, i64_w, i32_w]
    rfl
  refine pure_ (i := 14) (N := some 20) (v := undef) (a' := ?_) #[true, true, true, true, true, true, true, true, true, true, true, true, true, true, true, false, false, false, false] rfl rfl (by kernel_rfl) (fun _ _ _ h => h) (Or.inr ⟨by rfl, rfl⟩) ?_ ?_
  rotate_left
  · simp only [Act.put, lz1, lz2, lz3, i64_w, i32_w]
    rfl
  refine pure_ (i := 15) (N := some 21) (v := undef) (a' := ?_) #[true, true, true, true, true, true, true, true, true, true, true, true, true, true, true, true, false, false, false] rfl rfl (by kernel_rfl) (fun _ _ _ h => h) (Or.inr ⟨by rfl, rfl⟩) ?_ ?_
  rotate_left
  · simp only [Act.put, lz1, lz2, lz3, i64_w, i32_w]
    rfl
  refine pure_ (i := 16) (N := some 22) (v := undef) (a' := ?_) #[true, true, true, true, true, true, true, true, true, true, true, true, true, true, true, true, true, false, false] rfl rfl (by kernel_rfl) (fun _ _ _ h => h) (Or.inr ⟨by rfl, rfl⟩) ?_ ?_
  rotate_left
  · simp only [Act.put, lz1, lz2, lz3, i64_w, i32_w]
    rfl
  refine pure_ (i := 17) (N := some 23) (v := undef) (a' := ?_) #[true, true, true, true, true, true, true, true, true, true, true, true, true, true, true, true, true, true, false] rfl rfl (by kernel_rfl) (fun _ _ _ h => h) (Or.inr ⟨by rfl, rfl⟩) ?_ ?_
  rotate_left
  · simp only [Act.put, lz1, lz2, lz3, i64_w, i32_w]
    rfl
  refine pure_ (i := 18) (N := some 24) (v := ?_) (a' := ?_) #[true, true, true, true, true, true, true, true, true, true, true, true, true, true, true, true, true, true, true] rfl rfl (by kernel_rfl) (fun _ _ _ h => h) (Or.inl ⟨by rfl, ?_⟩) ?_ ?_
  rotate_left
  · intro w'
    go_simp
    with_reducible rfl
  rotate_left
  · simp only [Act.put, lz1, lz2, lz3, i64_w, i32_w]
    rfl
  refine done_ (by kernel_rfl) ?_
  go_wp2
  go_ret
  exact ⟨rfl, pw_below_drewN (pw_below_drewN HB.out.drew nd) nd2⟩
set_option maxHeartbeats 8000000 in
set_option maxRecDepth 100000 in
theorem impl_ThreeOk.no3 (a0_0 a0_1 : Int) (A0_2 : Option Addr) (c0_2 : Nat) (l0_2 : List S120) (A0_3 : Option Addr) (c0_3 : Nat) (l0_3 : List S120) (A0_4 : Option Addr) (c0_4 : Nat) (l0_4 : List Int) (w : World) (h : 1 ≤ a0_0 ∧ a0_0 ≤ 60) (h2 : 1 ≤ a0_1 ∧ a0_1 ≤ a0_0) (h3 : (l0_4.length : Int) > mx 1 (wrap64 (a0_0 - a0_1))) :
    Calls Try.prog 49 #[.agg #[.int .i64 a0_0, .int .i64 a0_1, .slice A0_2 l0_2.length c0_2, .slice A0_3 l0_3.length c0_3, .slice A0_4 l0_4.length c0_4]] w fun e w' => e = .returned (.bool false) ∧ Below w.heap.size w w' := by
  have HF := Aside0.mk (show impl_within.f a0_0 1 60 = some true by unfold impl_within.f; rw [if_pos (by omega)]; simp; omega)
  have HF2 := Aside0.mk (show impl_within.f a0_1 1 a0_0 = some true by unfold impl_within.f; rw [if_pos (by omega)]; simp; omega)
  obtain ⟨z, hz⟩ : ∃ z : Int, mx 1 (wrap64 (a0_0 - a0_1)) = z := ⟨_, rfl⟩
  have HZ := Aside0.mk hz
  rw [hz] at h3
  clear hz
  have hd : decide (z < (l0_4.length : Int)) = true := decide_eq_true h3
  have HB := Aside0.mk ((Below.refl w.heap.size w).alloc (Nat.le_refl _) (.cells #[.int .i64 a0_0, .int .i64 a0_1, .slice A0_2 l0_2.length c0_2, .slice A0_3 l0_3.length c0_3, .slice A0_4 l0_4.length c0_4] 75))
  have BK := Aside0.mk (blk_new w (.cells #[.int .i64 a0_0, .int .i64 a0_1, .slice A0_2 l0_2.length c0_2, .slice A0_3 l0_3.length c0_3, .slice A0_4 l0_4.length c0_4] 75))
  go_enter Try.func49, Try.ntmps49
  go_wp2
  obtain ⟨⟨p0, p1, p2, p3, p4⟩, _⟩ := cells5 BK.out
  generalize w.alloc (.cells #[.int .i64 a0_0, .int .i64 a0_1, .slice A0_2 l0_2.length c0_2, .slice A0_3 l0_3.length c0_3, .slice A0_4 l0_4.length c0_4] 75) = W at *
  refine start_ (n := 19) (S := fun w' => w'.cell? ⟨w.heap.size, 0, none⟩ = some (.int .i64 a0_0) ∧ w'.cell? ⟨w.heap.size, 1, none⟩ = some (.int .i64 a0_1) ∧ w'.cell? ⟨w.heap.size, 4, none⟩ = some (.slice A0_4 l0_4.length c0_4)) (ds := []) #[false, false, false, false, false, false, false, false, false, false, false, false, false, false, false, false, false, false, false] (by kernel_rfl) rfl rfl ⟨p0, p1, p4⟩ (fun hHeld => ?_)
  clear p0 p1 p2 p3 p4
  refine pure_ (i := 0) (N := some 6) (v := ?_) (a' := ?_) #[true, false, false, false, false, false, false, false, false, false, false, false, false, false, false, false, false, false, false] rfl rfl (by kernel_rfl) (fun _ _ _ h => h) (Or.inl ⟨by rfl, ?_⟩) ?_ ?_
  rotate_left
  · intro w'
    go_simp
    with_reducible rfl
  rotate_left
  · simp only [Act.put, lz1, lz2, lz3, i64_w, i32_w]
    rfl
  refine take_ (i := 1) (N := some 7) (v := ?_) (a' := ?_) #[true, true, false, false, false, false, false, false, false, false, false, false, false, false, false, false, false, false, false] rfl rfl (by kernel_rfl) (fun _ _ _ h => h) (Or.inl ⟨by rfl, ?_⟩) hHeld ?_ ?_
  rotate_left
  · rintro w' ⟨s0, s1, s2⟩
    go_simp
    with_reducible rfl
  rotate_left
  · simp only [Act.put, lz1, lz2, lz3, i64_w, i32_w]
    rfl
  refine one_ (i := 2) (N := some 8) #[true, true, true, false, false, false, false, false, false, false, false, false, false, false, false, false, false, false, false] rfl rfl (by kernel_rfl) (by decide) (fun K hK => ?_)
  refine goes_ Try.func82 (by kernel_rfl) rfl #[.int .i64 a0_0, .int .i64 1, .int .i64 60] (by rfl) rfl rfl (by (try simp only [List.map_toArray, List.map_cons, List.map_nil]); first | done | rfl) ?_
  (with_reducible refine (impl_within.calls a0_0 1 60 true _ HF.out).mono ?_)
  rintro e w1 ⟨rfl, ⟨nd, rfl⟩⟩
  refine ⟨_, rfl, ?_⟩
  refine hK.out _ _ hHeld (fun hHeld => ?_)
  clear hK K
  refine norm_ (a' := ?_) ?_ ?_
  rotate_left
  · show Act.put _ (some 8) _ = _
    simp only [Act.put, lz1, lz2, lz3, i64_w, i32_w]
    rfl
  refine pure_ (i := 3) (N := some 9) (v := ?_) (a' := ?_) #[true, true, true, true, false, false, false, false, false, false, false, false, false, false, false, false, false, false, false] rfl rfl (by kernel_rfl) (fun _ _ _ h => h) (Or.inl ⟨by rfl, ?_⟩) ?_ ?_
  rotate_left
  · intro w'
    go_simp
    with_reducible rfl
  rotate_left
  · simp only [Act.put, lz1, lz2, lz3, i64_w, i32_w]
    rfl
  refine pure_ (i := 4) (N := some 10) (v := ?_) (a' := ?_) #[true, true, true, true, true, false, false, false, false, false, false, false, false, false, false, false, false, false, false] rfl rfl (by kernel_rfl) (fun _ _ _ h => h) (Or.inl ⟨by rfl, ?_⟩) ?_ ?_
  rotate_left
  · intro w'
    go_simp
    with_reducible rfl
  rotate_left
  · simp only [Act.put, lz1, lz2, lz3, i64_w, i32_w]
    rfl
  refine pure_ (i := 5) (N := some 11) (v := ?_) (a' := ?_) #[true, true, true, true, true, true, false, false, false, false, false, false, false, false, false, false, false, false, false] rfl rfl (by kernel_rfl) (fun _ _ _ h => h) (Or.inl ⟨by rfl, ?_⟩) ?_ ?_
  rotate_left
  · intro w'
    go_simp
    with_reducible rfl
  rotate_left
  · simp only [Act.put, lz1, lz2, lz3, i64_w, i32_w]
    rfl
  refine pure_ (i := 7) (N := some 13) (v := ?_) (a' := ?_) #[true, true, true, true, true, true, false, true, false, false, false, false, false, false, false, false, false, false, false] rfl rfl (by kernel_rfl) (fun _ _ _ h => h) (Or.inl ⟨by rfl, ?_⟩) ?_ ?_
  rotate_left
  · intro w'
    go_simp
    with_reducible rfl
  rotate_left
  · simp only [Act.put, lz1, lz2, lz3, i64_w, i32_w]
    rfl
  refine take_ (i := 6) (N := some 12) (v := ?_) (a' := ?_) #[true, true, true, true, true, true, true, true, false, false, false, false, false, false, false, false, false, false, false] rfl rfl (by kernel_rfl) (fun _ _ _ h => h) (Or.inl ⟨by rfl, ?_⟩) hHeld ?_ ?_
  rotate_left
  · rintro w' ⟨s0, s1, s2⟩
    go_simp
    with_reducible rfl
  rotate_left
  · simp only [Act.put, lz1, lz2, lz3, i64_w, i32_w]
    rfl
  refine take_ (i := 8) (N := some 14) (v := ?_) (a' := ?_) #[true, true, true, true, true, true, true, true, true, false, false, false, false, false, false, false, false, false, false] rfl rfl (by kernel_rfl) (fun _ _ _ h => h) (Or.inl ⟨by rfl, ?_⟩) hHeld ?_ ?_
  rotate_left
  · rintro w' ⟨s0, s1, s2⟩
    go_simp
    with_reducible rfl
  rotate_left
  · simp only [Act.put, lz1, lz2, lz3, i64_w, i32_w]
    rfl
  refine one_ (i := 9) (N := some 15) #[true, true, true, true, true, true, true, true, true, true, false, false, false, false, false, false, false, false, false] rfl rfl (by kernel_rfl) (by decide) (fun K hK => ?_)
  refine goes_ Try.func82 (by kernel_rfl) rfl #[.int .i64 a0_1, .int .i64 1, .int .i64 a0_0] (by rfl) rfl rfl (by (try simp only [List.map_toArray, List.map_cons, List.map_nil]); first | done | rfl) ?_
  (with_reducible refine (impl_within.calls a0_1 1 a0_0 true _ HF2.out).mono ?_)
  rintro e w1 ⟨rfl, ⟨nd2, rfl⟩⟩
  refine ⟨_, rfl, ?_⟩
  refine hK.out _ _ hHeld (fun hHeld => ?_)
  clear hK K
  refine norm_ (a' := ?_) ?_ ?_
  rotate_left
  · show Act.put _ (some 15) _ = _
    simp only [Act.put, lz1, lz2, lz3, i64_w, i32_w]
    rfl
  refine pure_ (i := 10) (N := some 16) (v := ?_) (a' := ?_) #[true, true, true, true, true, true, true, true, true, true, true, false, false, false, false, false, false, false, false] rfl rfl (by kernel_rfl) (fun _ _ _ h => h) (Or.inl ⟨by rfl, ?_⟩) ?_ ?_
  rotate_left
  · intro w'
    go_simp
    with_reducible rfl
  rotate_left
  · simp only [Act.put, lz1, lz2, lz3, i64_w, i32_w]
    rfl
  refine pure_ (i := 11) (N := some 17) (v := ?_) (a' := ?_) #[true, true, true, true, true, true, true, true, true, true, true, true, false, false, false, false, false, false, false] rfl rfl (by kernel_rfl) (fun _ _ _ h => h) (Or.inl ⟨by rfl, ?_⟩) ?_ ?_
  rotate_left
  · intro w'
    go_simp
    with_reducible rfl
  rotate_left
  · simp only [Act.put, lz1, lz2, lz3, i64_w, i32_w]
    rfl
  refine pure_ (i := 12) (N := some 18) (v := ?_) (a' := ?_) #[true, true, true, true, true, true, true, true, true, true, true, true, true, false, false, false, false, false, false] rfl rfl (by kernel_rfl) (fun _ _ _ h => h) (Or.inl ⟨by rfl, ?_⟩) ?_ ?_
  rotate_left
  · intro w'
    go_simp
    with_reducible rfl
  rotate_left
  · simp only [Act.put, lz1, lz2, lz3, i64_w, i32_w]
    rfl
  refine pure_ (i := 13) (N := some 19) (v := ?_) (a' := ?_) #[true, true, true, true, true, true, true, true, true, true, true, true, true, true, false, false, false, false, false] rfl rfl (by kernel_rfl) (fun _ _ _ h => h) (Or.inl ⟨by rfl, ?_⟩) ?_ ?_
  rotate_left
  · intro w'
    go_simp
    with_reducible rfl
  rotate_left
  · simp only [Act.put, lz1, lz2, lz3, i64_w, i32_w]
    rfl
  refine take_ (i := 14) (N := some 20) (v := ?_) (a' := ?_) #[true, true, true, true, true, true, true, true, true, true, true, true, true, true, true, false, false, false, false] rfl rfl (by kernel_rfl) (fun _ _ _ h => h) (Or.inl ⟨by rfl, ?_⟩) hHeld ?_ ?_
  rotate_left
  · rintro w' ⟨s0, s1, s2⟩
    go_simp
    with_reducible rfl
  rotate_left
  · simp only [Act.put, lz1, lz2, lz3, i64_w, i32_w]
    rfl
  refine pure_ (i := 15) (N := some 21) (v := ?_) (a' := ?_) #[true, true, true, true, true, true, true, true, true, true, true, true, true, true, true, true, false, false, false] rfl rfl (by kernel_rfl) (fun _ _ _ h => h) (Or.inl ⟨by rfl, ?_⟩) ?_ ?_
  rotate_left
  · intro w'
    go_simp
    with_reducible rfl
  rotate_left
  · simp only [Act.put, lz1, lz2, lz3, i64_w, i32_w]
    rfl
  refine one_ (i := 16) (N := some 22) #[true, true, true, true, true, true, true, true, true, true, true, true, true, true, true, true, true, false, false] rfl rfl (by kernel_rfl) (by decide) (fun K hK => ?_)
  refine goes_ Try.func106 (by kernel_rfl) rfl #[.pointer (some ⟨w.heap.size, 0, none⟩)] (by rfl) rfl rfl (by (try simp only [List.map_toArray, List.map_cons, List.map_nil]); first | done | rfl) ?_
  have BKW := Aside0.mk (show ((W.drew.drewN nd).drewN nd2).heap[w.heap.size]? = some (.cells #[.int .i64 a0_0, .int .i64 a0_1, .slice A0_2 l0_2.length c0_2, .slice A0_3 l0_3.length c0_3, .slice A0_4 l0_4.length c0_4] 75 (0, 0)) from BK.out)
  (with_reducible refine (ghosts_raw w.heap.size a0_0 a0_1 _ _ _ ((W.drew.drewN nd).drewN nd2) BKW.out).mono ?_)
  rw [HZ.out]
  rintro e w1 ⟨rfl, hb⟩
  refine ⟨_, rfl, ?_⟩
  have BK1 := Aside0.mk (blk_below BKW.out hb)
  have HB1 := Aside0.mk (below_step (pw_below_drewN (pw_below_drewN HB.out.drew nd) nd2) hb)
  refine hK.out _ _ ⟨(cells5 BK1.out).1.1, (cells5 BK1.out).1.2.1, (cells5 BK1.out).1.2.2.2.2⟩ (fun hHeld => ?_)
  clear hK K
  clear hb HB BK BKW
  refine norm_ (a' := ?_) ?_ ?_
  rotate_left
  · show Act.put _ (some 22) _ = _
    simp only [Act.put, lz1, lz2, lz3, i64_w, i32_w]
    rfl
  refine pure_ (i := 17) (N := some 23) (v := ?_) (a' := ?_) #[true, true, true, true, true, true, true, true, true, true, true, true, true, true, true, true, true, true, false] rfl rfl (by kernel_rfl) (fun _ _ _ h => h) (Or.inl ⟨by rfl, ?_⟩) ?_ ?_
  rotate_left
  · intro w'
    go_simp
    with_reducible rfl
  rotate_left
  · simp only [Act.put, lz1, lz2, lz3, i64_w, i32_w]
    rfl
  refine pure_ (i := 18) (N := some 24) (v := ?_) (a' := ?_) #[true, true, true, true, true, true, true, true, true, true, true, true, true, true, true, true, true, true, true] rfl rfl (by kernel_rfl) (fun _ _ _ h => h) (Or.inl ⟨by rfl, ?_⟩) ?_ ?_
  rotate_left
  · intro w'
    go_simp
    with_reducible rfl
  rotate_left
  · simp only [Act.put, lz1, lz2, lz3, i64_w, i32_w]
    rfl
  refine done_ (by kernel_rfl) ?_
  go_wp2
  go_ret
  exact ⟨rfl, HB1.out⟩
set_option maxHeartbeats 8000000 in
set_option maxRecDepth 100000 in
theorem impl_ThreeOk.rest (k : Nat) (a0_0 a0_1 : Int) (A0_2 : Option Addr) (c0_2 : Nat) (l0_2 : List S120) (A0_3 : Option Addr) (c0_3 : Nat) (l0_3 : List S120) (A0_4 : Option Addr) (c0_4 : Nat) (l0_4 : List Int) (r : Bool) (w : World) (hr0_2 : Kd.C k120 w A0_2 l0_2.length l0_2) (hc0_2 : l0_2.length ≤ c0_2) (hr0_3 : Kd.C k120 w A0_3 l0_3.length l0_3) (hc0_3 : l0_3.length ≤ c0_3) (hr0_4 : Kd.C (Kd.int .i64) w A0_4 l0_4.length l0_4) (hc0_4 : l0_4.length ≤ c0_4)
    (hl : l0_2.length < 1000000 ∧ l0_3.length < 1000000 ∧ l0_4.length < 1000000) (h : 1 ≤ a0_0 ∧ a0_0 ≤ 60) (h2 : 1 ≤ a0_1 ∧ a0_1 ≤ a0_0) (h3 : ¬ (l0_4.length : Int) > mx 1 (wrap64 (a0_0 - a0_1)))
    (hr : (if ghGood [] l0_4 = true then (if ((l0_2 ++ l0_3).length : Int) ≤ a0_0 then impl_areItems.f k (l0_2 ++ l0_3) else some false) else some false) = some r) :
    Calls Try.prog 49 #[.agg #[.int .i64 a0_0, .int .i64 a0_1, .slice A0_2 l0_2.length c0_2, .slice A0_3 l0_3.length c0_3, .slice A0_4 l0_4.length c0_4]] w fun e w' => e = .returned (.bool r) ∧ Below w.heap.size w w' := by
  have HF := Aside0.mk (show impl_within.f a0_0 1 60 = some true by unfold impl_within.f; rw [if_pos (by omega)]; simp; omega)
  have HF2 := Aside0.mk (show impl_within.f a0_1 1 a0_0 = some true by unfold impl_within.f; rw [if_pos (by omega)]; simp; omega)
  obtain ⟨z, hz⟩ : ∃ z : Int, mx 1 (wrap64 (a0_0 - a0_1)) = z := ⟨_, rfl⟩
  have HZ := Aside0.mk hz
  rw [hz] at h3
  clear hz
  have hd : decide (z < (l0_4.length : Int)) = false := decide_eq_false h3
  have HR2 := Aside0.mk hr0_2
  have HC2 := Aside0.mk hc0_2
  have HR3 := Aside0.mk hr0_3
  have HC3 := Aside0.mk hc0_3
  have HR4 := Aside0.mk hr0_4
  have HC4 := Aside0.mk hc0_4
  have HL := Aside0.mk hl
  have HRR := Aside0.mk hr
  clear hr0_2 hc0_2 hr0_3 hc0_3 hr0_4 hc0_4 hl hr h h2 h3
  have HB := Aside0.mk ((Below.refl w.heap.size w).alloc (Nat.le_refl _) (.cells #[.int .i64 a0_0, .int .i64 a0_1, .slice A0_2 l0_2.length c0_2, .slice A0_3 l0_3.length c0_3, .slice A0_4 l0_4.length c0_4] 75))
  have BK := Aside0.mk (blk_new w (.cells #[.int .i64 a0_0, .int .i64 a0_1, .slice A0_2 l0_2.length c0_2, .slice A0_3 l0_3.length c0_3, .slice A0_4 l0_4.length c0_4] 75))
  go_enter Try.func49, Try.ntmps49
  go_wp2
  obtain ⟨⟨p0, p1, p2, p3, p4⟩, _⟩ := cells5 BK.out
  generalize w.alloc (.cells #[.int .i64 a0_0, .int .i64 a0_1, .slice A0_2 l0_2.length c0_2, .slice A0_3 l0_3.length c0_3, .slice A0_4 l0_4.length c0_4] 75) = W at *
  refine start_ (n := 19) (S := fun w' => w'.cell? ⟨w.heap.size, 0, none⟩ = some (.int .i64 a0_0) ∧ w'.cell? ⟨w.heap.size, 1, none⟩ = some (.int .i64 a0_1) ∧ w'.cell? ⟨w.heap.size, 4, none⟩ = some (.slice A0_4 l0_4.length c0_4)) (ds := []) #[false, false, false, false, false, false, false, false, false, false, false, false, false, false, false, false, false, false, false] (by kernel_rfl) rfl rfl ⟨p0, p1, p4⟩ (fun hHeld => ?_)
  clear p0 p1 p2 p3 p4
  refine pure_ (i := 0) (N := some 6) (v := ?_) (a' := ?_) #[true, false, false, false, false, false, false, false, false, false, false, false, false, false, false, false, false, false, false] rfl rfl (by kernel_rfl) (fun _ _ _ h => h) (Or.inl ⟨by rfl, ?_⟩) ?_ ?_
  rotate_left
  · intro w'
    go_simp
    with_reducible rfl
  rotate_left
  · simp only [Act.put, lz1, lz2, lz3, i64_w, i32_w]
    rfl
  refine take_ (i := 1) (N := some 7) (v := ?_) (a' := ?_) #[true, true, false, false, false, false, false, false, false, false, false, false, false, false, false, false, false, false, false] rfl rfl (by kernel_rfl) (fun _ _ _ h => h) (Or.inl ⟨by rfl, ?_⟩) hHeld ?_ ?_
  rotate_left
  · rintro w' ⟨s0, s1, s2⟩
    go_simp
    with_reducible rfl
  rotate_left
  · simp only [Act.put, lz1, lz2, lz3, i64_w, i32_w]
    rfl
  refine one_ (i := 2) (N := some 8) #[true, true, true, false, false, false, false, false, false, false, false, false, false, false, false, false, false, false, false] rfl rfl (by kernel_rfl) (by decide) (fun K hK => ?_)
  refine goes_ Try.func82 (by kernel_rfl) rfl #[.int .i64 a0_0, .int .i64 1, .int .i64 60] (by rfl) rfl rfl (by (try simp only [List.map_toArray, List.map_cons, List.map_nil]); first | done | rfl) ?_
  (with_reducible refine (impl_within.calls a0_0 1 60 true _ HF.out).mono ?_)
  rintro e w1 ⟨rfl, ⟨nd, rfl⟩⟩
  refine ⟨_, rfl, ?_⟩
  refine hK.out _ _ hHeld (fun hHeld => ?_)
  clear hK K
  refine norm_ (a' := ?_) ?_ ?_
  rotate_left
  · show Act.put _ (some 8) _ = _
    simp only [Act.put, lz1, lz2, lz3, i64_w, i32_w]
    rfl
  refine pure_ (i := 3) (N := some 9) (v := ?_) (a' := ?_) #[true, true, true, true, false, false, false, false, false, false, false, false, false, false, false, false, false, false, false] rfl rfl (by kernel_rfl) (fun _ _ _ h => h) (Or.inl ⟨by rfl, ?_⟩) ?_ ?_
  rotate_left
  · intro w'
    go_simp
    with_reducible rfl
  rotate_left
  · simp only [Act.put, lz1, lz2, lz3, i64_w, i32_w]
    rfl
  refine pure_ (i := 4) (N := some 10) (v := ?_) (a' := ?_) #[true, true, true, true, true, false, false, false, false, false, false, false, false, false, false, false, false, false, false] rfl rfl (by kernel_rfl) (fun _ _ _ h => h) (Or.inl ⟨by rfl, ?_⟩) ?_ ?_
  rotate_left
  · intro w'
    go_simp
    with_reducible rfl
  rotate_left
  · simp only [Act.put, lz1, lz2, lz3, i64_w, i32_w]
    rfl
  refine pure_ (i := 5) (N := some 11) (v := ?_) (a' := ?_) #[true, true, true, true, true, true, false, false, false, false, false, false, false, false, false, false, false, false, false] rfl rfl (by kernel_rfl) (fun _ _ _ h => h) (Or.inl ⟨by rfl, ?_⟩) ?_ ?_
  rotate_left
  · intro w'
    go_simp
    with_reducible rfl
  rotate_left
  · simp only [Act.put, lz1, lz2, lz3, i64_w, i32_w]
    rfl
  refine pure_ (i := 7) (N := some 13) (v := ?_) (a' := ?_) #[true, true, true, true, true, true, false, true, false, false, false, false, false, false, false, false, false, false, false] rfl rfl (by kernel_rfl) (fun _ _ _ h => h) (Or.inl ⟨by rfl, ?_⟩) ?_ ?_
  rotate_left
  · intro w'
    go_simp
    with_reducible rfl
  rotate_left
  · simp only [Act.put, lz1, lz2, lz3, i64_w, i32_w]
    rfl
  refine take_ (i := 6) (N := some 12) (v := ?_) (a' := ?_) #[true, true, true, true, true, true, true, true, false, false, false, false, false, false, false, false, false, false, false] rfl rfl (by kernel_rfl) (fun _ _ _ h => h) (Or.inl ⟨by rfl, ?_⟩) hHeld ?_ ?_
  rotate_left
  · rintro w' ⟨s0, s1, s2⟩
    go_simp
    with_reducible rfl
  rotate_left
  · simp only [Act.put, lz1, lz2, lz3, i64_w, i32_w]
    rfl
  refine take_ (i := 8) (N := some 14) (v := ?_) (a' := ?_) #[true, true, true, true, true, true, true, true, true, false, false, false, false, false, false, false, false, false, false] rfl rfl (by kernel_rfl) (fun _ _ _ h => h) (Or.inl ⟨by rfl, ?_⟩) hHeld ?_ ?_
  rotate_left
  · rintro w' ⟨s0, s1, s2⟩
    go_simp
    with_reducible rfl
  rotate_left
  · simp only [Act.put, lz1, lz2, lz3, i64_w, i32_w]
    rfl
  refine one_ (i := 9) (N := some 15) #[true, true, true, true, true, true, true, true, true, true, false, false, false, false, false, false, false, false, false] rfl rfl (by kernel_rfl) (by decide) (fun K hK => ?_)
  refine goes_ Try.func82 (by kernel_rfl) rfl #[.int .i64 a0_1, .int .i64 1, .int .i64 a0_0] (by rfl) rfl rfl (by (try simp only [List.map_toArray, List.map_cons, List.map_nil]); first | done | rfl) ?_
  (with_reducible refine (impl_within.calls a0_1 1 a0_0 true _ HF2.out).mono ?_)
  rintro e w1 ⟨rfl, ⟨nd2, rfl⟩⟩
  refine ⟨_, rfl, ?_⟩
  refine hK.out _ _ hHeld (fun hHeld => ?_)
  clear hK K
  refine norm_ (a' := ?_) ?_ ?_
  rotate_left
  · show Act.put _ (some 15) _ = _
    simp only [Act.put, lz1, lz2, lz3, i64_w, i32_w]
    rfl
  refine pure_ (i := 10) (N := some 16) (v := ?_) (a' := ?_) #[true, true, true, true, true, true, true, true, true, true, true, false, false, false, false, false, false, false, false] rfl rfl (by kernel_rfl) (fun _ _ _ h => h) (Or.inl ⟨by rfl, ?_⟩) ?_ ?_
  rotate_left
  · intro w'
    go_simp
    with_reducible rfl
  rotate_left
  · simp only [Act.put, lz1, lz2, lz3, i64_w, i32_w]
    rfl
  refine pure_ (i := 11) (N := some 17) (v := ?_) (a' := ?_) #[true, true, true, true, true, true, true, true, true, true, true, true, false, false, false, false, false, false, false] rfl rfl (by kernel_rfl) (fun _ _ _ h => h) (Or.inl ⟨by rfl, ?_⟩) ?_ ?_
  rotate_left
  · intro w'
    go_simp
    with_reducible rfl
  rotate_left
  · simp only [Act.put, lz1, lz2, lz3, i64_w, i32_w]
    rfl
  refine pure_ (i := 12) (N := some 18) (v := ?_) (a' := ?_) #[true, true, true, true, true, true, true, true, true, true, true, true, true, false, false, false, false, false, false] rfl rfl (by kernel_rfl) (fun _ _ _ h => h) (Or.inl ⟨by rfl, ?_⟩) ?_ ?_
  rotate_left
  · intro w'
    go_simp
    with_reducible rfl
  rotate_left
  · simp only [Act.put, lz1, lz2, lz3, i64_w, i32_w]
    rfl
  refine pure_ (i := 13) (N := some 19) (v := ?_) (a' := ?_) #[true, true, true, true, true, true, true, true, true, true, true, true, true, true, false, false, false, false, false] rfl rfl (by kernel_rfl) (fun _ _ _ h => h) (Or.inl ⟨by rfl, ?_⟩) ?_ ?_
  rotate_left
  · intro w'
    go_simp
    with_reducible rfl
  rotate_left
  · simp only [Act.put, lz1, lz2, lz3, i64_w, i32_w]
    rfl
  refine take_ (i := 14) (N := some 20) (v := ?_) (a' := ?_) #[true, true, true, true, true, true, true, true, true, true, true, true, true, true, true, false, false, false, false] rfl rfl (by kernel_rfl) (fun _ _ _ h => h) (Or.inl ⟨by rfl, ?_⟩) hHeld ?_ ?_
  rotate_left
  · rintro w' ⟨s0, s1, s2⟩
    go_simp
    with_reducible rfl
  rotate_left
  · simp only [Act.put, lz1, lz2, lz3, i64_w, i32_w]
    rfl
  refine pure_ (i := 15) (N := some 21) (v := ?_) (a' := ?_) #[true, true, true, true, true, true, true, true, true, true, true, true, true, true, true, true, false, false, false] rfl rfl (by kernel_rfl) (fun _ _ _ h => h) (Or.inl ⟨by rfl, ?_⟩) ?_ ?_
  rotate_left
  · intro w'
    go_simp
    with_reducible rfl
  rotate_left
  · simp only [Act.put, lz1, lz2, lz3, i64_w, i32_w]
    rfl
  refine one_ (i := 16) (N := some 22) #[true, true, true, true, true, true, true, true, true, true, true, true, true, true, true, true, true, false, false] rfl rfl (by kernel_rfl) (by decide) (fun K hK => ?_)
  refine goes_ Try.func106 (by kernel_rfl) rfl #[.pointer (some ⟨w.heap.size, 0, none⟩)] (by rfl) rfl rfl (by (try simp only [List.map_toArray, List.map_cons, List.map_nil]); first | done | rfl) ?_
  have BKW := Aside0.mk (show ((W.drew.drewN nd).drewN nd2).heap[w.heap.size]? = some (.cells #[.int .i64 a0_0, .int .i64 a0_1, .slice A0_2 l0_2.length c0_2, .slice A0_3 l0_3.length c0_3, .slice A0_4 l0_4.length c0_4] 75 (0, 0)) from BK.out)
  (with_reducible refine (ghosts_raw w.heap.size a0_0 a0_1 _ _ _ ((W.drew.drewN nd).drewN nd2) BKW.out).mono ?_)
  rw [HZ.out]
  rintro e w1 ⟨rfl, hb⟩
  refine ⟨_, rfl, ?_⟩
  have BK1 := Aside0.mk (blk_below BKW.out hb)
  have HB1 := Aside0.mk (below_step (pw_below_drewN (pw_below_drewN HB.out.drew nd) nd2) hb)
  refine hK.out _ _ ⟨(cells5 BK1.out).1.1, (cells5 BK1.out).1.2.1, (cells5 BK1.out).1.2.2.2.2⟩ (fun hHeld => ?_)
  clear hK K
  clear hb HB BK BKW
  refine norm_ (a' := ?_) ?_ ?_
  rotate_left
  · show Act.put _ (some 22) _ = _
    simp only [Act.put, lz1, lz2, lz3, i64_w, i32_w]
    rfl
  refine pure_ (i := 17) (N := some 23) (v := ?_) (a' := ?_) #[true, true, true, true, true, true, true, true, true, true, true, true, true, true, true, true, true, true, false] rfl rfl (by kernel_rfl) (fun _ _ _ h => h) (Or.inl ⟨by rfl, ?_⟩) ?_ ?_
  rotate_left
  · intro w'
    go_simp
    with_reducible rfl
  rotate_left
  · simp only [Act.put, lz1, lz2, lz3, i64_w, i32_w]
    rfl
  refine pure_ (i := 18) (N := some 24) (v := ?_) (a' := ?_) #[true, true, true, true, true, true, true, true, true, true, true, true, true, true, true, true, true, true, true] rfl rfl (by kernel_rfl) (fun _ _ _ h => h) (Or.inl ⟨by rfl, ?_⟩) ?_ ?_
  rotate_left
  · intro w'
    go_simp
    with_reducible rfl
  rotate_left
  · simp only [Act.put, lz1, lz2, lz3, i64_w, i32_w]
    rfl
  refine done_ (by kernel_rfl) ?_
  obtain ⟨⟨p0, p1, p2, p3, p4⟩, _⟩ := cells5 BK1.out
  clear hHeld
  go_wp2
  go_loopg [28] (l0_4.length + 1) (fun kq v28 w' => ∃ n : Nat, v28 = .int .i64 n ∧ Aside0 (n + kq = l0_4.length + 1) ∧ Aside0 (n ≤ l0_4.length) ∧ Aside0 (ghGood (l0_4.take n) (l0_4.drop n) = ghGood [] l0_4) ∧ Aside0 (w'.heap[w.heap.size]? = some (.cells #[.int .i64 a0_0, .int .i64 a0_1, .slice A0_2 l0_2.length c0_2, .slice A0_3 l0_3.length c0_3, .slice A0_4 l0_4.length c0_4] 75 (0, 0))) ∧ Aside0 (Below w.heap.size w w'))
  case atStart => exact ⟨0, rfl, ⟨by omega⟩, ⟨by omega⟩, ⟨by simp⟩, BK1, HB1⟩
  case round =>
    clear p0 p1 p2 p3 p4 BK1 HB1
    obtain ⟨n, rfl, HI, HLE, HN, BK1, HB1⟩ := hrel
    obtain ⟨⟨p0, p1, p2, p3, p4⟩, _⟩ := cells5 BK1.out
    by_cases hlt : (n : Int) < (l0_4.length : Int)
    · obtain ⟨ad, e1, hx0⟩ := Kd.at_int HR4.out (n : Int) (by omega) hlt
      cases e1
      have hlt' : n < l0_4.length := by omega
      replace hx0 := (HB1.out.cell (World.block_lt_of_cell? w _ hx0)).trans hx0
      rw [Int.toNat_natCast] at hx0
      obtain ⟨x, hxx⟩ : ∃ x, x = rd l0_4 (n : Int) := ⟨_, rfl⟩
      rw [← hxx] at hx0
      have hxi : l0_4[n] = x := by rw [hxx]; simp [rd, hlt']
      have hN := HN.out
      rw [List.drop_eq_getElem_cons hlt', hxi, ghGood] at hN
      have htk : l0_4.take n ++ [x] = l0_4.take (n + 1) := by rw [List.take_succ_eq_append_getElem hlt', hxi]
      rw [htk] at hN
      have hcut0 := cut_to (P := Try.prog) 63 3 .i64 Try.underlying63 (info_parts info3).choose_spec.1 (some ad) l0_4.length c0_4 (n : Int) (by omega) (by omega) HC4.out
      have hcut : ∀ W_ : World, (Instr.slice 63 (.slice (some ad) l0_4.length c0_4) none (some (.int .i64 n)) none).run Try.prog W_ = .ok (.slice (some ad) n c0_4) W_ := by simpa using hcut0
      clear hcut0 hxx hxi htk HN
      have HI2 := Aside0.mk HI.out
      have HLT := Aside0.mk hlt'
      have q1 : ((n : Int) < (l0_4.length : Int)) = True := eq_true hlt
      have q2 : (n < l0_4.length) = True := eq_true hlt'
      have W1 := Aside0.mk (show wrap64 ((n : Int) + 1) = ((n + 1 : Nat) : Int) by have := HL.out.2.2; unfold wrap64; omega)
      clear hlt hlt'
      by_cases hnum : 0 ≤ x ∧ x ≤ 4294967295
      · rw [if_pos hnum] at hN
        have HNUM := Aside0.mk (show impl_isNum.f x = some true by unfold impl_isNum.f impl_within.f; rw [if_pos hnum.1]; simp; omega)
        clear hnum
        by_cases hm : x ∈ l0_4.take n
        · rw [if_pos hm] at hN
          have HM := Aside0.mk (show decide (x ∈ l0_4.take n) = true from decide_eq_true hm)
          have HGG := Aside0.mk hN
          clear hN hm
          obtain rfl : false = r := by
            have hr := HRR.out
            rw [if_neg (by rw [← HGG.out]; simp)] at hr
            exact Option.some.inj hr
          go_wp2_with (first | (go_at_call 100; (with_reducible refine (impl_isNum.calls x true _ HNUM.out).mono ?_); rintro e w2 ⟨rfl, ⟨nd3, rfl⟩⟩) | (go_at_call 107; (with_reducible refine (contains_take l0_4 n (Nat.le_of_lt HLT.out) (some ad) c0_4 x true _ (Kd.C_below HR4.out (pw_below_drewN HB1.out _)) HC4.out HL.out.2.2 HM.out).mono ?_); rintro e w2 ⟨rfl, ⟨nd4, rfl⟩⟩))
          go_ret
          exact ⟨rfl, pw_below_drewN HB1.out (nd3 + nd4)⟩
        · rw [if_neg hm] at hN
          have HM := Aside0.mk (show decide (x ∈ l0_4.take n) = false from decide_eq_false hm)
          have HGG := Aside0.mk hN
          clear hN hm
          go_wp2_with (first | (go_at_call 100; (with_reducible refine (impl_isNum.calls x true _ HNUM.out).mono ?_); rintro e w2 ⟨rfl, ⟨nd3, rfl⟩⟩) | (go_at_call 107; (with_reducible refine (contains_take l0_4 n (Nat.le_of_lt HLT.out) (some ad) c0_4 x false _ (Kd.C_below HR4.out (pw_below_drewN HB1.out _)) HC4.out HL.out.2.2 HM.out).mono ?_); rintro e w2 ⟨rfl, ⟨nd4, rfl⟩⟩))
          cases gk with
          | zero => exact absurd HI2.out (by have := HLT.out; omega)
          | succ g1 =>
            go_roundg g1
            case measure => omega
            case rel => exact ⟨n + 1, by rw [W1.out], ⟨by have := HI2.out; omega⟩, ⟨HLT.out⟩, HGG, ⟨BK1.out⟩, ⟨pw_below_drewN HB1.out (nd3 + nd4)⟩⟩
      · rw [if_neg hnum] at hN
        have HNUM := Aside0.mk (show impl_isNum.f x = some false by unfold impl_isNum.f impl_within.f; split <;> simp <;> omega)
        have HGG := Aside0.mk hN
        clear hnum hN
        obtain rfl : false = r := by
          have hr := HRR.out
          rw [if_neg (by rw [← HGG.out]; simp)] at hr
          exact Option.some.inj hr
        go_wp2_with (first | (go_at_call 100; (with_reducible refine (impl_isNum.calls x false _ HNUM.out).mono ?_); rintro e w2 ⟨rfl, ⟨nd3, rfl⟩⟩))
        go_ret
        exact ⟨rfl, pw_below_drewN HB1.out nd3⟩
    · have hne : n = l0_4.length := by have := HLE.out; omega
      subst hne
      have hG : true = ghGood [] l0_4 := by have := HN.out; simpa [ghGood] using this
      have hr := HRR.out
      rw [if_pos hG.symm] at hr
      clear hG HN HI HRR
      have HRR := Aside0.mk hr
      clear hr
      clear p0 p1 p2 p3 p4
      obtain ⟨qs, hqs⟩ : ∃ q, q = l0_2 ++ l0_3 := ⟨_, rfl⟩
      have HQ := Aside0.mk hqs
      have hr := HRR.out
      rw [← hqs] at hr
      clear hqs HRR hlt HLE
      have HRR := Aside0.mk hr
      clear hr
      have HCI := Aside0.mk (show impl_copyItems.f l0_2 = some l0_2 by unfold impl_copyItems.f; rw [if_pos (by have := HL.out.1; omega)])
      go_wp2
      obtain ⟨⟨p0, p1, p2, p3, p4⟩, _⟩ := cells5 BK1.out
      refine start_ (n := 7) (S := fun w' => w'.cell? ⟨w.heap.size, 2, none⟩ = some (.slice A0_2 l0_2.length c0_2) ∧ w'.cell? ⟨w.heap.size, 3, none⟩ = some (.slice A0_3 l0_3.length c0_3)) (ds := []) #[false, false, false, false, false, false, false] (by kernel_rfl) rfl rfl ⟨p2, p3⟩ (fun hHeld => ?_)
      clear p0 p1 p2 p3 p4
      refine pure_ (i := 0) (N := some 45) (v := ?_) (a' := ?_) #[true, false, false, false, false, false, false] rfl rfl (by kernel_rfl) (fun _ _ _ h => h) (Or.inl ⟨by rfl, ?_⟩) ?_ ?_
      rotate_left
      · intro w'
        go_simp
        with_reducible rfl
      rotate_left
      · simp only [Act.put, lz1, lz2, lz3, i64_w, i32_w]
        rfl
      refine pure_ (i := 3) (N := some 48) (v := ?_) (a' := ?_) #[true, false, false, true, false, false, false] rfl rfl (by kernel_rfl) (fun _ _ _ h => h) (Or.inl ⟨by rfl, ?_⟩) ?_ ?_
      rotate_left
      · intro w'
        go_simp
        with_reducible rfl
      rotate_left
      · simp only [Act.put, lz1, lz2, lz3, i64_w, i32_w]
        rfl
      refine take_ (i := 1) (N := some 46) (v := ?_) (a' := ?_) #[true, true, false, true, false, false, false] rfl rfl (by kernel_rfl) (fun _ _ _ h => h) (Or.inl ⟨by rfl, ?_⟩) hHeld ?_ ?_
      rotate_left
      · rintro w' ⟨s0, s1⟩
        go_simp
        with_reducible rfl
      rotate_left
      · simp only [Act.put, lz1, lz2, lz3, i64_w, i32_w]
        rfl
      refine take_ (i := 4) (N := some 49) (v := ?_) (a' := ?_) #[true, true, false, true, true, false, false] rfl rfl (by kernel_rfl) (fun _ _ _ h => h) (Or.inl ⟨by rfl, ?_⟩) hHeld ?_ ?_
      rotate_left
      · rintro w' ⟨s0, s1⟩
        go_simp
        with_reducible rfl
      rotate_left
      · simp only [Act.put, lz1, lz2, lz3, i64_w, i32_w]
        rfl
      refine one_ (i := 2) (N := some 47) #[true, true, true, true, true, false, false] rfl rfl (by kernel_rfl) (by decide) (fun K hK => ?_)
      have HCA := Aside0.mk (Kd.C_below HR2.out HB1.out)
      refine goes_ Try.func108 (by kernel_rfl) rfl #[.slice A0_2 l0_2.length c0_2] (by rfl) rfl rfl (by (try simp only [List.map_toArray, List.map_cons, List.map_nil]); first | done | rfl) ?_
      (with_reducible refine (impl_copyItems.calls A0_2 c0_2 l0_2 l0_2 _ (Kd.C_drew HCA.out) HC2.out HCI.out).mono ?_)
      rintro e w2 ⟨v, rfl, ho, hb⟩
      refine ⟨_, rfl, ?_⟩
      have BK2 := Aside0.mk (blk_below (blk_drew BK1.out) hb)
      have HB2 := Aside0.mk (below_step HB1.out.drew hb)
      have HO2 := Aside0.mk (Kd.R_lower ho (below_size HB1.out.drew))
      clear ho hb HCA
      refine hK.out _ _ ⟨(cells5 BK2.out).1.2.2.1, (cells5 BK2.out).1.2.2.2.1⟩ (fun hHeld => ?_)
      clear hK K BK1 HB1
      refine norm_ (a' := ?_) ?_ ?_
      rotate_left
      · show Act.put _ (some 47) _ = _
        simp only [Act.put, lz1, lz2, lz3, i64_w, i32_w]
        rfl
      refine one_ (i := 5) (N := some 50) #[true, true, true, true, true, true, false] rfl rfl (by kernel_rfl) (by decide) (fun K hK => ?_)
      refine Kd.R_append_rows_step k120 (w0 := w) w.heap.size (by rfl) (.tmp 47) (.tmp 49) 32 120 (.agg #[(.string ⟨#[]⟩), (.string ⟨#[]⟩), (.int .i64 0)]) 40 rfl Try.underlying32 info120 rfl (by decide) (by omega) v l0_2 l0_3 A0_3 l0_3.length c0_3 (fun _ => True) (fun _ => False) rfl rfl HO2.out (Kd.C_below HR3.out HB2.out) (fun _ _ h => h) (fun _ h => h.elim) (fun _ _ => trivial) HB2.out (below_size HB2.out) (by have := HL.out; omega) ?_
      intro v1 w3 ho hb hg hat
      rw [← HQ.out] at ho
      have BK3 := Aside0.mk (blk_grown BK2.out hg (Kd.R_ne HO2.out BK2.out (by decide)))
      have HB3 := Aside0.mk hb
      obtain ⟨Av, cv, rfl, hcv, hCv⟩ := Kd.R_reads ho
      have HCV := Aside0.mk hCv
      have HCC := Aside0.mk hcv
      clear ho hb hg hat hcv hCv
      refine hK.out _ _ ⟨(cells5 BK3.out).1.2.2.1, (cells5 BK3.out).1.2.2.2.1⟩ (fun hHeld => ?_)
      clear hK K BK2 HB2 HO2
      refine norm_ (a' := ?_) ?_ ?_
      rotate_left
      · show Act.put _ (some 50) _ = _
        simp only [Act.put, lz1, lz2, lz3, i64_w, i32_w]
        rfl
      refine pure_ (i := 6) (N := some 5) (v := ?_) (a' := ?_) #[true, true, true, true, true, true, true] rfl rfl (by kernel_rfl) (fun _ _ _ h => h) (Or.inl ⟨by rfl, ?_⟩) ?_ ?_
      rotate_left
      · intro w'
        go_simp
        with_reducible rfl
      rotate_left
      · simp only [Act.put, lz1, lz2, lz3, i64_w, i32_w]
        rfl
      refine done_ (by kernel_rfl) ?_
      obtain ⟨⟨p0, p1, p2, p3, p4⟩, _⟩ := cells5 BK3.out
      clear p1 p2 p3 p4 hHeld
      by_cases hle : (qs.length : Int) ≤ a0_0
      · have hr := HRR.out
        rw [if_pos hle] at hr
        have HA := Aside0.mk hr
        have hle' : decide ((qs.length : Int) ≤ a0_0) = true := decide_eq_true hle
        clear hr hle HRR
        go_wp2_with (first | (go_at_call 109; (with_reducible refine (impl_areItems.calls k Av cv qs r _ HCV.out HCC.out HA.out).mono ?_); rintro e w4 ⟨rfl, hb⟩; have HB4 := Aside0.mk (below_step HB3.out hb); clear hb))
        go_ret
        exact ⟨rfl, HB4.out⟩
      · have hr := HRR.out
        rw [if_neg hle] at hr
        obtain rfl := Option.some.inj hr
        have hle' : decide ((qs.length : Int) ≤ a0_0) = false := decide_eq_false hle
        clear hr hle HRR
        go_wp2
        go_ret
        exact ⟨rfl, HB3.out⟩
theorem impl_ThreeOk.calls (k : Nat) (a0_0 a0_1 : Int) (A0_2 : Option Addr) (c0_2 : Nat) (l0_2 : List S120) (A0_3 : Option Addr) (c0_3 : Nat) (l0_3 : List S120) (A0_4 : Option Addr) (c0_4 : Nat) (l0_4 : List Int) (r : Bool) (w : World) (hr0_2 : Kd.C k120 w A0_2 l0_2.length l0_2) (hc0_2 : l0_2.length ≤ c0_2) (hr0_3 : Kd.C k120 w A0_3 l0_3.length l0_3) (hc0_3 : l0_3.length ≤ c0_3) (hr0_4 : Kd.C (Kd.int .i64) w A0_4 l0_4.length l0_4) (hc0_4 : l0_4.length ≤ c0_4)
    (h : impl_ThreeOk.f k a0_0 a0_1 l0_2 l0_3 l0_4 = some r) :
    Calls Try.prog 49 #[.agg #[.int .i64 a0_0, .int .i64 a0_1, .slice A0_2 l0_2.length c0_2, .slice A0_3 l0_3.length c0_3, .slice A0_4 l0_4.length c0_4]] w fun e w' => e = .returned (.bool r) ∧ Below w.heap.size w w' := by
  unfold impl_ThreeOk.f at h
  by_cases hl : l0_2.length < 1000000 ∧ l0_3.length < 1000000 ∧ l0_4.length < 1000000
  · rw [if_pos hl] at h
    by_cases h1 : 1 ≤ a0_0 ∧ a0_0 ≤ 60
    · rw [if_pos h1] at h
      by_cases h2 : 1 ≤ a0_1 ∧ a0_1 ≤ a0_0
      · rw [if_pos h2] at h
        by_cases h3 : (l0_4.length : Int) > mx 1 (wrap64 (a0_0 - a0_1))
        · rw [if_pos h3] at h
          obtain rfl := Option.some.inj h
          exact impl_ThreeOk.no3 a0_0 a0_1 A0_2 c0_2 l0_2 A0_3 c0_3 l0_3 A0_4 c0_4 l0_4 w h1 h2 h3
        · rw [if_neg h3] at h
          exact impl_ThreeOk.rest k a0_0 a0_1 A0_2 c0_2 l0_2 A0_3 c0_3 l0_3 A0_4 c0_4 l0_4 r w hr0_2 hc0_2 hr0_3 hc0_3 hr0_4 hc0_4 hl h1 h2 h3 h
      · rw [if_neg h2] at h
        obtain rfl := Option.some.inj h
        exact impl_ThreeOk.no2 a0_0 a0_1 A0_2 c0_2 l0_2 A0_3 c0_3 l0_3 A0_4 c0_4 l0_4 w h1 h2
    · rw [if_neg h1] at h
      obtain rfl := Option.some.inj h
      exact impl_ThreeOk.no1 a0_0 a0_1 A0_2 c0_2 l0_2 A0_3 c0_3 l0_3 A0_4 c0_4 l0_4 w h1
  · rw [if_neg hl] at h
    exact absurd h (by simp)
def impl_ThreeNew.f (k : Nat) (a0 : Int) (a1 : Int) : Option (Int × Int × (List (S120)) × (List (S120)) × List Int × Bool) := (impl_ThreeOk.f k a0 a1 ([] : List (S120)) ([] : List (S120)) ([] : List Int)).bind fun t202 => (if t202 = true then (some (a0, a1, ([] : List (S120)), ([] : List (S120)), ([] : List Int), true)) else (some (0, 0, ([] : List (S120)), ([] : List (S120)), ([] : List Int), false)))
theorem impl_ThreeNew.mono : ∀ a0 a1 k, LeO (impl_ThreeNew.f k a0 a1) (impl_ThreeNew.f (k + 1) a0 a1) := by
  intro a0 a1 k
  unfold impl_ThreeNew.f
  repeat' first
      | (with_reducible exact impl_ThreeOk.mono _ _ _ _ _ _)
      | (with_reducible exact LeO.refl _)
      | (with_reducible exact LeO.none _)
      | (with_reducible refine LeO.ite ?_ ?_)
      | (with_reducible refine LeO.bind ?_ (fun _ => ?_))
      | exact impl_ThreeOk.mono _ _ _ _ _ _
      | exact LeO.none _
      | refine LeO.ite ?_ ?_
      | refine LeO.bind ?_ (fun _ => ?_)
set_option maxHeartbeats 8000000 in
set_option maxRecDepth 100000 in
theorem impl_ThreeNew.calls (k : Nat) (a0 : Int) (a1 : Int) (r1 : Int) (r2 : Int) (r3 : List (S120)) (r4 : List (S120)) (r5 : List Int) (r6 : Bool) (w : World) (h : impl_ThreeNew.f k a0 a1 = some (r1, r2, r3, r4, r5, r6)) :
    Calls Try.prog 98 #[.int .i64 a0, .int .i64 a1] w fun e w' => ∃ v2_ v3_ v4_ : Value, e = .returned (.tuple #[.agg #[.int .i64 r1, .int .i64 r2, v2_, v3_, v4_], .bool r6]) ∧ Kd.R k120 120 w' w.heap.size (fun k_ => some k_ ≠ (v3_ : Value).ownBlock) v2_ r3 ∧ Kd.R k120 120 w' w.heap.size (fun k_ => some k_ ≠ (v2_ : Value).ownBlock) v3_ r4 ∧ Kd.R (Kd.int .i64) 3 w' w.heap.size (fun _ => True) v4_ r5 ∧ Below w.heap.size w w' := by
  have hu75 := Try.underlying75
  have HB := Aside0.mk (Below.refl w.heap.size w)
  have H : ((impl_ThreeOk.f k a0 a1 ([] : List (S120)) ([] : List (S120)) ([] : List Int)).bind fun t202 => (if t202 = true then (some (a0, a1, ([] : List (S120)), ([] : List (S120)), ([] : List Int), true)) else (some (0, 0, ([] : List (S120)), ([] : List (S120)), ([] : List Int), false)))) = some (r1, r2, r3, r4, r5, r6) := h
  clear h
  replace H := Option.bind_eq_some_iff.mp H
  obtain ⟨t202, A30, H⟩ := H
  replace H : (if t202 = true then (some (a0, a1, ([] : List (S120)), ([] : List (S120)), ([] : List Int), true)) else (some (0, 0, ([] : List (S120)), ([] : List (S120)), ([] : List Int), false))) = some (r1, r2, r3, r4, r5, r6) := H
  have A3 := Aside0.mk A30
  clear A30
  by_cases c4 : t202 = true
  · subst c4
    have H1 : (some (a0, a1, ([] : List (S120)), ([] : List (S120)), ([] : List Int), true)) = some (r1, r2, r3, r4, r5, r6) := by rw [if_pos rfl] at H; exact H
    clear H
    have H := H1
    clear H1
    simp only [Option.some.injEq, Prod.mk.injEq] at H
    obtain ⟨rfl, rfl, rfl, rfl, rfl, rfl⟩ := H
    go_enter Try.func98, Try.ntmps98
    go_wp2_with (first | ((with_reducible refine gate_dst (N := 4) rfl ?_); refine box_event ?hg (N := 4) ?hd (cs := #[.int .i64 0, .int .i64 0, .slice none 0 0, .slice none 0 0, .slice none 0 0]) (t := 75) ?hr ?_; (case hd => rfl); (case hg => rfl); (case hr => first | (go_simp; done) | (go_simp; rfl)); intro gb200 hg w5 hbox hb; have n0_ := Aside0.mk (below_step (by repeat (first | (with_reducible first | exact HB.out | apply below_alloc | apply pw_below_drewN | apply below_drew1) | exact HB.out)) hb); have n1_ := Aside0.mk (hbox); have n2_ := Aside0.mk ((by rw [hg]; exact (below_size (by repeat (first | (with_reducible first | exact HB.out | apply below_alloc | apply pw_below_drewN | apply below_drew1) | exact HB.out))) : w.heap.size ≤ gb200)); have n3_ := Aside0.mk ((by rw [hg]; exact (below_size (by repeat (first | (with_reducible first | exact HB.out | apply below_alloc | apply pw_below_drewN | apply below_drew1) | exact HB.out))) : w.heap.size ≤ gb200)); clear HB; have HB := n0_; have BK200 := n1_; have GW200 := n2_; have GE200 := n3_; clear n0_ n1_ n2_ n3_; clear hb hbox hg) | ((with_reducible refine gate_dst (N := 6) rfl ?_); refine box_event ?hg (N := 6) ?hd (cs := #[.int .i64 0, .int .i64 0, .slice none 0 0, .slice none 0 0, .slice none 0 0]) (t := 75) ?hr ?_; (case hd => rfl); (case hg => rfl); (case hr => first | (go_simp; done) | (go_simp; rfl)); intro gb201 hg w6 hbox hb; have n0_ := Aside0.mk (blk_below (g := gb200) (o := .cells #[.int .i64 0, .int .i64 0, .slice none 0 0, .slice none 0 0, .slice none 0 0] 75 (0, 0)) (by (with_reducible repeat (first | refine blk_drewN ?_ _ | refine blk_drew ?_ | refine blk_alloc ?_ _)); exact BK200.out) hb); have n1_ := Aside0.mk (below_step (by repeat (first | (with_reducible first | exact HB.out | apply below_alloc | apply pw_below_drewN | apply below_drew1 | refine below_set ?_ GE200.out) | exact HB.out)) hb); have n2_ := Aside0.mk (hbox); have n3_ := Aside0.mk ((by rw [hg]; exact (below_size (by repeat (first | (with_reducible first | exact HB.out | apply below_alloc | apply pw_below_drewN | apply below_drew1 | refine below_set ?_ GE200.out) | exact HB.out))) : w.heap.size ≤ gb201)); have n4_ := Aside0.mk ((by rw [hg]; exact (below_size (by repeat (first | (with_reducible first | exact HB.out | apply below_alloc | apply pw_below_drewN | apply below_drew1 | refine below_set ?_ GE200.out) | exact HB.out))) : w.heap.size ≤ gb201)); have n5_ := Aside0.mk ((by rw [hg]; exact Nat.ne_of_lt (blk_lt (g := gb200) (o := .cells #[.int .i64 0, .int .i64 0, .slice none 0 0, .slice none 0 0, .slice none 0 0] 75 (0, 0)) (by (with_reducible repeat (first | refine blk_drewN ?_ _ | refine blk_drew ?_ | refine blk_alloc ?_ _)); exact BK200.out)) : gb200 ≠ gb201)); have n6_ := Aside0.mk ((by rw [hg]; exact Nat.ne_of_gt (blk_lt (g := gb200) (o := .cells #[.int .i64 0, .int .i64 0, .slice none 0 0, .slice none 0 0, .slice none 0 0] 75 (0, 0)) (by (with_reducible repeat (first | refine blk_drewN ?_ _ | refine blk_drew ?_ | refine blk_alloc ?_ _)); exact BK200.out)) : gb201 ≠ gb200)); clear BK200; clear HB; have BK200 := n0_; have HB := n1_; have BK201 := n2_; have GW201 := n3_; have GE201 := n4_; have NB200_201 := n5_; have NB201_200 := n6_; clear n0_ n1_ n2_ n3_ n4_ n5_ n6_; clear hb hbox hg; have hnb7 := NB201_200.out; have hnc7 := NB200_201.out; have hcz8_0 : w6.cell? ⟨gb201, 0, none⟩ = some (.int .i64 0) := (blk_cell BK201.out 0).trans rfl; have hcz8_1 : w6.cell? ⟨gb201, 1, none⟩ = some (.int .i64 0) := (blk_cell BK201.out 1).trans rfl; have hcz8_2 : w6.cell? ⟨gb201, 2, none⟩ = some (.slice none 0 0) := (blk_cell BK201.out 2).trans rfl; have hcz8_3 : w6.cell? ⟨gb201, 3, none⟩ = some (.slice none 0 0) := (blk_cell BK201.out 3).trans rfl; have hcz8_4 : w6.cell? ⟨gb201, 4, none⟩ = some (.slice none 0 0) := (blk_cell BK201.out 4).trans rfl; have hfz8_0 := blk_frozen BK201.out 0; have hfz8_1 := blk_frozen BK201.out 1; have hfz8_2 := blk_frozen BK201.out 2; have hfz8_3 := blk_frozen BK201.out 3; have hfz8_4 := blk_frozen BK201.out 4) | ((with_reducible refine gate_callee (f := 49) rfl ?_); refine goesL_ (some 11) rfl rfl Try.func49 (by kernel_rfl) rfl #[.agg #[.int .i64 a0, .int .i64 a1, .slice none 0 0, .slice none 0 0, .slice none 0 0]] rfl (by (try simp only [List.map_toArray, List.map_cons, List.map_nil]); first | done | rfl | (simp only [List.length_drop, List.length_take]; rfl)) ?_; (refine (impl_ThreeOk.calls k a0 a1 _ _ ([] : List (S120)) _ _ ([] : List (S120)) _ _ ([] : List Int) true _ ?side1 ?side2 ?side3 ?side4 ?side5 ?side6 A3.out).mono ?_); (case side1 => exact Kd.C_nil _ _); (case side2 => exact Nat.le_refl _); (case side3 => exact Kd.C_nil _ _); (case side4 => exact Nat.le_refl _); (case side5 => exact Kd.C_nil _ _); (case side6 => exact Nat.le_refl _); rintro e w9 ⟨rfl, hb⟩; refine ⟨_, rfl, ?_⟩; have n0_ := Aside0.mk (blk_below (g := gb200) (o := .cells #[.int .i64 0, .int .i64 0, .slice none 0 0, .slice none 0 0, .slice none 0 0] 75 (0, 0)) (by (with_reducible repeat (first | refine blk_drewN ?_ _ | refine blk_drew ?_ | refine blk_alloc ?_ _)); refine blk_far ?_ NB200_201.out _; (with_reducible repeat (first | refine blk_drewN ?_ _ | refine blk_drew ?_ | refine blk_alloc ?_ _)); refine blk_far ?_ NB200_201.out _; (with_reducible repeat (first | refine blk_drewN ?_ _ | refine blk_drew ?_ | refine blk_alloc ?_ _)); refine blk_far ?_ NB200_201.out _; (with_reducible repeat (first | refine blk_drewN ?_ _ | refine blk_drew ?_ | refine blk_alloc ?_ _)); refine blk_far ?_ NB200_201.out _; (with_reducible repeat (first | refine blk_drewN ?_ _ | refine blk_drew ?_ | refine blk_alloc ?_ _)); refine blk_far ?_ NB200_201.out _; (with_reducible repeat (first | refine blk_drewN ?_ _ | refine blk_drew ?_ | refine blk_alloc ?_ _)); exact BK200.out) hb); have n1_ := Aside0.mk (blk_below (g := gb201) (o := .cells #[.int .i64 a0, .int .i64 a1, .slice none 0 0, .slice none 0 0, .slice none 0 0] 75 (0, 0)) (by (with_reducible repeat (first | refine blk_drewN ?_ _ | refine blk_drew ?_ | refine blk_alloc ?_ _)); refine blk_put (cs := #[.int .i64 a0, .int .i64 a1, .slice none 0 0, .slice none 0 0, .slice none 0 0]) ?_ 4 _ rfl; (with_reducible repeat (first | refine blk_drewN ?_ _ | refine blk_drew ?_ | refine blk_alloc ?_ _)); refine blk_put (cs := #[.int .i64 a0, .int .i64 a1, .slice none 0 0, .slice none 0 0, .slice none 0 0]) ?_ 3 _ rfl; (with_reducible repeat (first | refine blk_drewN ?_ _ | refine blk_drew ?_ | refine blk_alloc ?_ _)); refine blk_put (cs := #[.int .i64 a0, .int .i64 a1, .slice none 0 0, .slice none 0 0, .slice none 0 0]) ?_ 2 _ rfl; (with_reducible repeat (first | refine blk_drewN ?_ _ | refine blk_drew ?_ | refine blk_alloc ?_ _)); refine blk_put (cs := #[.int .i64 a0, .int .i64 0, .slice none 0 0, .slice none 0 0, .slice none 0 0]) ?_ 1 _ rfl; (with_reducible repeat (first | refine blk_drewN ?_ _ | refine blk_drew ?_ | refine blk_alloc ?_ _)); refine blk_put (cs := #[.int .i64 0, .int .i64 0, .slice none 0 0, .slice none 0 0, .slice none 0 0]) ?_ 0 _ rfl; (with_reducible repeat (first | refine blk_drewN ?_ _ | refine blk_drew ?_ | refine blk_alloc ?_ _)); exact BK201.out) hb); have n2_ := Aside0.mk (below_step (by repeat (first | (with_reducible first | exact HB.out | apply below_alloc | apply pw_below_drewN | apply below_drew1 | refine below_set ?_ GE200.out | refine below_set ?_ GE201.out) | exact HB.out)) hb); clear BK200; clear BK201; clear HB; have BK200 := n0_; have BK201 := n1_; have HB := n2_; clear n0_ n1_ n2_; (try clear hb); (try clear hb2); (try clear hk); (try clear hi); have hcz10_0 : w9.cell? ⟨gb201, 0, none⟩ = some (.int .i64 a0) := (blk_cell BK201.out 0).trans rfl; have hcz10_1 : w9.cell? ⟨gb201, 1, none⟩ = some (.int .i64 a1) := (blk_cell BK201.out 1).trans rfl; have hcz10_2 : w9.cell? ⟨gb201, 2, none⟩ = some (.slice none 0 0) := (blk_cell BK201.out 2).trans rfl; have hcz10_3 : w9.cell? ⟨gb201, 3, none⟩ = some (.slice none 0 0) := (blk_cell BK201.out 3).trans rfl; have hcz10_4 : w9.cell? ⟨gb201, 4, none⟩ = some (.slice none 0 0) := (blk_cell BK201.out 4).trans rfl; have hfz10_0 := blk_frozen BK201.out 0; have hfz10_1 := blk_frozen BK201.out 1; have hfz10_2 := blk_frozen BK201.out 2; have hfz10_3 := blk_frozen BK201.out 3; have hfz10_4 := blk_frozen BK201.out 4; have hcz11_0 : w9.cell? ⟨gb200, 0, none⟩ = some (.int .i64 0) := (blk_cell BK200.out 0).trans rfl; have hcz11_1 : w9.cell? ⟨gb200, 1, none⟩ = some (.int .i64 0) := (blk_cell BK200.out 1).trans rfl; have hcz11_2 : w9.cell? ⟨gb200, 2, none⟩ = some (.slice none 0 0) := (blk_cell BK200.out 2).trans rfl; have hcz11_3 : w9.cell? ⟨gb200, 3, none⟩ = some (.slice none 0 0) := (blk_cell BK200.out 3).trans rfl; have hcz11_4 : w9.cell? ⟨gb200, 4, none⟩ = some (.slice none 0 0) := (blk_cell BK200.out 4).trans rfl; have hfz11_0 := blk_frozen BK200.out 0; have hfz11_1 := blk_frozen BK200.out 1; have hfz11_2 := blk_frozen BK200.out 2; have hfz11_3 := blk_frozen BK200.out 3; have hfz11_4 := blk_frozen BK200.out 4))
    refine bodyPost_ret (results_ct rfl _ _ gb200 75 #[.int .i64 a0, .int .i64 a1, .slice none 0 0, .slice none 0 0, .slice none 0 0] (0, 0) _ rfl (by (with_reducible repeat (first | refine blk_drewN ?_ _ | refine blk_drew ?_ | refine blk_alloc ?_ _)); refine blk_put (cs := #[.int .i64 a0, .int .i64 a1, .slice none 0 0, .slice none 0 0, .slice none 0 0]) ?_ 4 _ rfl; (with_reducible repeat (first | refine blk_drewN ?_ _ | refine blk_drew ?_ | refine blk_alloc ?_ _)); refine blk_put (cs := #[.int .i64 a0, .int .i64 a1, .slice none 0 0, .slice none 0 0, .slice none 0 0]) ?_ 3 _ rfl; (with_reducible repeat (first | refine blk_drewN ?_ _ | refine blk_drew ?_ | refine blk_alloc ?_ _)); refine blk_put (cs := #[.int .i64 a0, .int .i64 a1, .slice none 0 0, .slice none 0 0, .slice none 0 0]) ?_ 2 _ rfl; (with_reducible repeat (first | refine blk_drewN ?_ _ | refine blk_drew ?_ | refine blk_alloc ?_ _)); refine blk_put (cs := #[.int .i64 a0, .int .i64 0, .slice none 0 0, .slice none 0 0, .slice none 0 0]) ?_ 1 _ rfl; (with_reducible repeat (first | refine blk_drewN ?_ _ | refine blk_drew ?_ | refine blk_alloc ?_ _)); refine blk_put (cs := #[.int .i64 0, .int .i64 0, .slice none 0 0, .slice none 0 0, .slice none 0 0]) ?_ 0 _ rfl; (with_reducible repeat (first | refine blk_drewN ?_ _ | refine blk_drew ?_ | refine blk_alloc ?_ _)); exact BK200.out) Try.underlying75 rfl (by kernel_rfl)) rfl ?_
    exact ⟨_, _, _, by first | rfl | (simp [errW_none, errW_some] <;> rfl) | (simp [*, errW_none, errW_some] <;> rfl), by first | exact Kd.R_nil _ _ _ _ _ | exact Kd.N_nil _ _ _ _ _ | exact Kd.V_nil _ _ _ _ _ | exact Kd.Q_nil _ _ _ _ _ | exact Kd.S_nil _ _ _ _ _, by first | exact Kd.R_nil _ _ _ _ _ | exact Kd.N_nil _ _ _ _ _ | exact Kd.V_nil _ _ _ _ _ | exact Kd.Q_nil _ _ _ _ _ | exact Kd.S_nil _ _ _ _ _, by first | exact Kd.R_nil _ _ _ _ _ | exact Kd.N_nil _ _ _ _ _ | exact Kd.V_nil _ _ _ _ _ | exact Kd.Q_nil _ _ _ _ _ | exact Kd.S_nil _ _ _ _ _, by repeat (first | (with_reducible first | exact HB.out | apply below_alloc | apply pw_below_drewN | apply below_drew1 | refine below_set ?_ GE200.out | refine below_set ?_ GE201.out) | exact HB.out)⟩
  · replace c4 := Bool.eq_false_iff.mpr c4
    subst c4
    have H1 : (some (0, 0, ([] : List (S120)), ([] : List (S120)), ([] : List Int), false)) = some (r1, r2, r3, r4, r5, r6) := by rw [if_neg (show ¬ (false = true) by decide)] at H; exact H
    clear H
    have H := H1
    clear H1
    simp only [Option.some.injEq, Prod.mk.injEq] at H
    obtain ⟨rfl, rfl, rfl, rfl, rfl, rfl⟩ := H
    go_enter Try.func98, Try.ntmps98
    go_wp2_with (first | ((with_reducible refine gate_dst (N := 4) rfl ?_); refine box_event ?hg (N := 4) ?hd (cs := #[.int .i64 0, .int .i64 0, .slice none 0 0, .slice none 0 0, .slice none 0 0]) (t := 75) ?hr ?_; (case hd => rfl); (case hg => rfl); (case hr => first | (go_simp; done) | (go_simp; rfl)); intro gb200 hg w12 hbox hb; have n0_ := Aside0.mk (below_step (by repeat (first | (with_reducible first | exact HB.out | apply below_alloc | apply pw_below_drewN | apply below_drew1) | exact HB.out)) hb); have n1_ := Aside0.mk (hbox); have n2_ := Aside0.mk ((by rw [hg]; exact (below_size (by repeat (first | (with_reducible first | exact HB.out | apply below_alloc | apply pw_below_drewN | apply below_drew1) | exact HB.out))) : w.heap.size ≤ gb200)); have n3_ := Aside0.mk ((by rw [hg]; exact (below_size (by repeat (first | (with_reducible first | exact HB.out | apply below_alloc | apply pw_below_drewN | apply below_drew1) | exact HB.out))) : w.heap.size ≤ gb200)); clear HB; have HB := n0_; have BK200 := n1_; have GW200 := n2_; have GE200 := n3_; clear n0_ n1_ n2_ n3_; clear hb hbox hg) | ((with_reducible refine gate_dst (N := 6) rfl ?_); refine box_event ?hg (N := 6) ?hd (cs := #[.int .i64 0, .int .i64 0, .slice none 0 0, .slice none 0 0, .slice none 0 0]) (t := 75) ?hr ?_; (case hd => rfl); (case hg => rfl); (case hr => first | (go_simp; done) | (go_simp; rfl)); intro gb201 hg w13 hbox hb; have n0_ := Aside0.mk (blk_below (g := gb200) (o := .cells #[.int .i64 0, .int .i64 0, .slice none 0 0, .slice none 0 0, .slice none 0 0] 75 (0, 0)) (by (with_reducible repeat (first | refine blk_drewN ?_ _ | refine blk_drew ?_ | refine blk_alloc ?_ _)); exact BK200.out) hb); have n1_ := Aside0.mk (below_step (by repeat (first | (with_reducible first | exact HB.out | apply below_alloc | apply pw_below_drewN | apply below_drew1 | refine below_set ?_ GE200.out) | exact HB.out)) hb); have n2_ := Aside0.mk (hbox); have n3_ := Aside0.mk ((by rw [hg]; exact (below_size (by repeat (first | (with_reducible first | exact HB.out | apply below_alloc | apply pw_below_drewN | apply below_drew1 | refine below_set ?_ GE200.out) | exact HB.out))) : w.heap.size ≤ gb201)); have n4_ := Aside0.mk ((by rw [hg]; exact (below_size (by repeat (first | (with_reducible first | exact HB.out | apply below_alloc | apply pw_below_drewN | apply below_drew1 | refine below_set ?_ GE200.out) | exact HB.out))) : w.heap.size ≤ gb201)); have n5_ := Aside0.mk ((by rw [hg]; exact Nat.ne_of_lt (blk_lt (g := gb200) (o := .cells #[.int .i64 0, .int .i64 0, .slice none 0 0, .slice none 0 0, .slice none 0 0] 75 (0, 0)) (by (with_reducible repeat (first | refine blk_drewN ?_ _ | refine blk_drew ?_ | refine blk_alloc ?_ _)); exact BK200.out)) : gb200 ≠ gb201)); have n6_ := Aside0.mk ((by rw [hg]; exact Nat.ne_of_gt (blk_lt (g := gb200) (o := .cells #[.int .i64 0, .int .i64 0, .slice none 0 0, .slice none 0 0, .slice none 0 0] 75 (0, 0)) (by (with_reducible repeat (first | refine blk_drewN ?_ _ | refine blk_drew ?_ | refine blk_alloc ?_ _)); exact BK200.out)) : gb201 ≠ gb200)); clear BK200; clear HB; have BK200 := n0_; have HB := n1_; have BK201 := n2_; have GW201 := n3_; have GE201 := n4_; have NB200_201 := n5_; have NB201_200 := n6_; clear n0_ n1_ n2_ n3_ n4_ n5_ n6_; clear hb hbox hg; have hnb14 := NB201_200.out; have hnc14 := NB200_201.out; have hcz15_0 : w13.cell? ⟨gb201, 0, none⟩ = some (.int .i64 0) := (blk_cell BK201.out 0).trans rfl; have hcz15_1 : w13.cell? ⟨gb201, 1, none⟩ = some (.int .i64 0) := (blk_cell BK201.out 1).trans rfl; have hcz15_2 : w13.cell? ⟨gb201, 2, none⟩ = some (.slice none 0 0) := (blk_cell BK201.out 2).trans rfl; have hcz15_3 : w13.cell? ⟨gb201, 3, none⟩ = some (.slice none 0 0) := (blk_cell BK201.out 3).trans rfl; have hcz15_4 : w13.cell? ⟨gb201, 4, none⟩ = some (.slice none 0 0) := (blk_cell BK201.out 4).trans rfl; have hfz15_0 := blk_frozen BK201.out 0; have hfz15_1 := blk_frozen BK201.out 1; have hfz15_2 := blk_frozen BK201.out 2; have hfz15_3 := blk_frozen BK201.out 3; have hfz15_4 := blk_frozen BK201.out 4) | ((with_reducible refine gate_callee (f := 49) rfl ?_); refine goesL_ (some 11) rfl rfl Try.func49 (by kernel_rfl) rfl #[.agg #[.int .i64 a0, .int .i64 a1, .slice none 0 0, .slice none 0 0, .slice none 0 0]] rfl (by (try simp only [List.map_toArray, List.map_cons, List.map_nil]); first | done | rfl | (simp only [List.length_drop, List.length_take]; rfl)) ?_; (refine (impl_ThreeOk.calls k a0 a1 _ _ ([] : List (S120)) _ _ ([] : List (S120)) _ _ ([] : List Int) false _ ?side1 ?side2 ?side3 ?side4 ?side5 ?side6 A3.out).mono ?_); (case side1 => exact Kd.C_nil _ _); (case side2 => exact Nat.le_refl _); (case side3 => exact Kd.C_nil _ _); (case side4 => exact Nat.le_refl _); (case side5 => exact Kd.C_nil _ _); (case side6 => exact Nat.le_refl _); rintro e w16 ⟨rfl, hb⟩; refine ⟨_, rfl, ?_⟩; have n0_ := Aside0.mk (blk_below (g := gb200) (o := .cells #[.int .i64 0, .int .i64 0, .slice none 0 0, .slice none 0 0, .slice none 0 0] 75 (0, 0)) (by (with_reducible repeat (first | refine blk_drewN ?_ _ | refine blk_drew ?_ | refine blk_alloc ?_ _)); refine blk_far ?_ NB200_201.out _; (with_reducible repeat (first | refine blk_drewN ?_ _ | refine blk_drew ?_ | refine blk_alloc ?_ _)); refine blk_far ?_ NB200_201.out _; (with_reducible repeat (first | refine blk_drewN ?_ _ | refine blk_drew ?_ | refine blk_alloc ?_ _)); refine blk_far ?_ NB200_201.out _; (with_reducible repeat (first | refine blk_drewN ?_ _ | refine blk_drew ?_ | refine blk_alloc ?_ _)); refine blk_far ?_ NB200_201.out _; (with_reducible repeat (first | refine blk_drewN ?_ _ | refine blk_drew ?_ | refine blk_alloc ?_ _)); refine blk_far ?_ NB200_201.out _; (with_reducible repeat (first | refine blk_drewN ?_ _ | refine blk_drew ?_ | refine blk_alloc ?_ _)); exact BK200.out) hb); have n1_ := Aside0.mk (blk_below (g := gb201) (o := .cells #[.int .i64 a0, .int .i64 a1, .slice none 0 0, .slice none 0 0, .slice none 0 0] 75 (0, 0)) (by (with_reducible repeat (first | refine blk_drewN ?_ _ | refine blk_drew ?_ | refine blk_alloc ?_ _)); refine blk_put (cs := #[.int .i64 a0, .int .i64 a1, .slice none 0 0, .slice none 0 0, .slice none 0 0]) ?_ 4 _ rfl; (with_reducible repeat (first | refine blk_drewN ?_ _ | refine blk_drew ?_ | refine blk_alloc ?_ _)); refine blk_put (cs := #[.int .i64 a0, .int .i64 a1, .slice none 0 0, .slice none 0 0, .slice none 0 0]) ?_ 3 _ rfl; (with_reducible repeat (first | refine blk_drewN ?_ _ | refine blk_drew ?_ | refine blk_alloc ?_ _)); refine blk_put (cs := #[.int .i64 a0, .int .i64 a1, .slice none 0 0, .slice none 0 0, .slice none 0 0]) ?_ 2 _ rfl; (with_reducible repeat (first | refine blk_drewN ?_ _ | refine blk_drew ?_ | refine blk_alloc ?_ _)); refine blk_put (cs := #[.int .i64 a0, .int .i64 0, .slice none 0 0, .slice none 0 0, .slice none 0 0]) ?_ 1 _ rfl; (with_reducible repeat (first | refine blk_drewN ?_ _ | refine blk_drew ?_ | refine blk_alloc ?_ _)); refine blk_put (cs := #[.int .i64 0, .int .i64 0, .slice none 0 0, .slice none 0 0, .slice none 0 0]) ?_ 0 _ rfl; (with_reducible repeat (first | refine blk_drewN ?_ _ | refine blk_drew ?_ | refine blk_alloc ?_ _)); exact BK201.out) hb); have n2_ := Aside0.mk (below_step (by repeat (first | (with_reducible first | exact HB.out | apply below_alloc | apply pw_below_drewN | apply below_drew1 | refine below_set ?_ GE200.out | refine below_set ?_ GE201.out) | exact HB.out)) hb); clear BK200; clear BK201; clear HB; have BK200 := n0_; have BK201 := n1_; have HB := n2_; clear n0_ n1_ n2_; (try clear hb); (try clear hb2); (try clear hk); (try clear hi); have hcz17_0 : w16.cell? ⟨gb200, 0, none⟩ = some (.int .i64 0) := (blk_cell BK200.out 0).trans rfl; have hcz17_1 : w16.cell? ⟨gb200, 1, none⟩ = some (.int .i64 0) := (blk_cell BK200.out 1).trans rfl; have hcz17_2 : w16.cell? ⟨gb200, 2, none⟩ = some (.slice none 0 0) := (blk_cell BK200.out 2).trans rfl; have hcz17_3 : w16.cell? ⟨gb200, 3, none⟩ = some (.slice none 0 0) := (blk_cell BK200.out 3).trans rfl; have hcz17_4 : w16.cell? ⟨gb200, 4, none⟩ = some (.slice none 0 0) := (blk_cell BK200.out 4).trans rfl; have hfz17_0 := blk_frozen BK200.out 0; have hfz17_1 := blk_frozen BK200.out 1; have hfz17_2 := blk_frozen BK200.out 2; have hfz17_3 := blk_frozen BK200.out 3; have hfz17_4 := blk_frozen BK200.out 4))
    refine bodyPost_ret (results_ct rfl _ _ gb200 75 #[.int .i64 0, .int .i64 0, .slice none 0 0, .slice none 0 0, .slice none 0 0] (0, 0) _ rfl (by (with_reducible repeat (first | refine blk_drewN ?_ _ | refine blk_drew ?_ | refine blk_alloc ?_ _)); refine blk_put (cs := #[.int .i64 0, .int .i64 0, .slice none 0 0, .slice none 0 0, .slice none 0 0]) ?_ 4 _ rfl; (with_reducible repeat (first | refine blk_drewN ?_ _ | refine blk_drew ?_ | refine blk_alloc ?_ _)); refine blk_put (cs := #[.int .i64 0, .int .i64 0, .slice none 0 0, .slice none 0 0, .slice none 0 0]) ?_ 3 _ rfl; (with_reducible repeat (first | refine blk_drewN ?_ _ | refine blk_drew ?_ | refine blk_alloc ?_ _)); refine blk_put (cs := #[.int .i64 0, .int .i64 0, .slice none 0 0, .slice none 0 0, .slice none 0 0]) ?_ 2 _ rfl; (with_reducible repeat (first | refine blk_drewN ?_ _ | refine blk_drew ?_ | refine blk_alloc ?_ _)); refine blk_put (cs := #[.int .i64 0, .int .i64 0, .slice none 0 0, .slice none 0 0, .slice none 0 0]) ?_ 1 _ rfl; (with_reducible repeat (first | refine blk_drewN ?_ _ | refine blk_drew ?_ | refine blk_alloc ?_ _)); refine blk_put (cs := #[.int .i64 0, .int .i64 0, .slice none 0 0, .slice none 0 0, .slice none 0 0]) ?_ 0 _ rfl; (with_reducible repeat (first | refine blk_drewN ?_ _ | refine blk_drew ?_ | refine blk_alloc ?_ _)); exact BK200.out) Try.underlying75 rfl (by kernel_rfl)) rfl ?_
    exact ⟨_, _, _, by first | rfl | (simp [errW_none, errW_some] <;> rfl) | (simp [*, errW_none, errW_some] <;> rfl), by first | exact Kd.R_nil _ _ _ _ _ | exact Kd.N_nil _ _ _ _ _ | exact Kd.V_nil _ _ _ _ _ | exact Kd.Q_nil _ _ _ _ _ | exact Kd.S_nil _ _ _ _ _, by first | exact Kd.R_nil _ _ _ _ _ | exact Kd.N_nil _ _ _ _ _ | exact Kd.V_nil _ _ _ _ _ | exact Kd.Q_nil _ _ _ _ _ | exact Kd.S_nil _ _ _ _ _, by first | exact Kd.R_nil _ _ _ _ _ | exact Kd.N_nil _ _ _ _ _ | exact Kd.V_nil _ _ _ _ _ | exact Kd.Q_nil _ _ _ _ _ | exact Kd.S_nil _ _ _ _ _, by repeat (first | (with_reducible first | exact HB.out | apply below_alloc | apply pw_below_drewN | apply below_drew1 | refine below_set ?_ GE200.out | refine below_set ?_ GE201.out) | exact HB.out)⟩
set_option maxHeartbeats 8000000 in
set_option maxRecDepth 100000 in
theorem impl_SetupOk.row (k : Nat) (k1 cp mo : Int) (rk rc : Int) (ri : List S120) (ok : Bool) (w : World) (hk : k1 ≠ 4) (h : impl_RowNew.f k k1 cp = some (rk, rc, ri, ok)) :
    Calls Try.prog 33 #[.agg #[.int .i64 k1, .int .i64 cp, .int .i64 mo]] w fun e w' => e = .returned (.bool (ok && decide (mo = 0))) ∧ Below w.heap.size w w' := by
  have H := Aside0.mk h
  have hk' : (k1 == 4) = false := by simpa using hk
  clear h
  cases ok with
  | true =>
    go_enter Try.func33, Try.ntmps33
    go_wp2_with (first | (go_at_call 20; (with_reducible refine (impl_RowNew.calls k k1 cp rk rc ri true _ H.out).mono ?_); rintro e w1 ⟨v, rfl, ho, hb⟩; obtain ⟨A1, c1, rfl⟩ := Kd.R_slice ho; have B1 := Aside0.mk (show w1.heap[w.heap.size]? = some (.cells #[.int .i64 k1, .int .i64 cp, .int .i64 mo] 28 (0, 0)) from blk_below (blk_new w _) hb); have HB1 := Aside0.mk (below_step ((Below.refl w.heap.size w).alloc (Nat.le_refl _) _) hb); clear ho hb; obtain ⟨⟨p0, p1, p2⟩, q0, q1, q2⟩ := cells3 B1.out; obtain ⟨⟨p3, p4, p5⟩, q3, q4, q5⟩ := cells3 (blk_alloc B1.out (.cells #[.int .i64 rk, .int .i64 rc, .slice A1 ri.length c1] 34))))
    go_ret
    refine ⟨by first | rfl | (simp; done) | (simp [*]; done), ?_⟩
    repeat (first | exact HB1.out | exact HB1.out.alloc (below_size HB1.out) _ | apply below_alloc)
  | false =>
    go_enter Try.func33, Try.ntmps33
    go_wp2_with (first | (go_at_call 20; (with_reducible refine (impl_RowNew.calls k k1 cp rk rc ri false _ H.out).mono ?_); rintro e w1 ⟨v, rfl, ho, hb⟩; obtain ⟨A1, c1, rfl⟩ := Kd.R_slice ho; have B1 := Aside0.mk (show w1.heap[w.heap.size]? = some (.cells #[.int .i64 k1, .int .i64 cp, .int .i64 mo] 28 (0, 0)) from blk_below (blk_new w _) hb); have HB1 := Aside0.mk (below_step ((Below.refl w.heap.size w).alloc (Nat.le_refl _) _) hb); clear ho hb; obtain ⟨⟨p0, p1, p2⟩, q0, q1, q2⟩ := cells3 B1.out; obtain ⟨⟨p3, p4, p5⟩, q3, q4, q5⟩ := cells3 (blk_alloc B1.out (.cells #[.int .i64 rk, .int .i64 rc, .slice A1 ri.length c1] 34))))
    go_ret
    refine ⟨by first | rfl | (simp; done) | (simp [*]; done), ?_⟩
    repeat (first | exact HB1.out | exact HB1.out.alloc (below_size HB1.out) _ | apply below_alloc)
set_option maxHeartbeats 8000000 in
set_option maxRecDepth 100000 in
theorem impl_SetupOk.three (k : Nat) (k1 cp mo : Int) (r1 r2 : Int) (r3 r4 : List S120) (r5 : List Int) (ok : Bool) (w : World) (hk : k1 = 4) (h : impl_ThreeNew.f k cp mo = some (r1, r2, r3, r4, r5, ok)) :
    Calls Try.prog 33 #[.agg #[.int .i64 k1, .int .i64 cp, .int .i64 mo]] w fun e w' => e = .returned (.bool ok) ∧ Below w.heap.size w w' := by
  have H := Aside0.mk h
  subst hk
  clear h
  go_enter Try.func33, Try.ntmps33
  go_wp2_with (first | (go_at_call 98; (with_reducible refine (impl_ThreeNew.calls k cp mo r1 r2 r3 r4 r5 ok _ H.out).mono ?_); rintro e w1 ⟨v2, v3, v4, rfl, ho2, ho3, ho4, hb⟩; obtain ⟨A2, c2, rfl⟩ := Kd.R_slice ho2; obtain ⟨A3, c3, rfl⟩ := Kd.R_slice ho3; obtain ⟨A4, c4, rfl⟩ := Kd.R_slice ho4; have HB1 := Aside0.mk (below_step ((Below.refl w.heap.size w).alloc (Nat.le_refl _) _) hb); clear ho2 ho3 ho4 hb))
  go_ret
  refine ⟨by first | rfl | (simp; done) | (simp [*]; done), ?_⟩
  repeat (first | exact HB1.out | exact HB1.out.alloc (below_size HB1.out) _ | apply below_alloc)
def impl_SetupOk.f (k : Nat) (a0_0 a0_1 a0_2 : Int) : Option Bool :=
  if a0_0 = 4 then (impl_ThreeNew.f k a0_1 a0_2).bind fun n => some n.2.2.2.2.2 else (impl_RowNew.f k a0_0 a0_1).bind fun n => some (n.2.2.2 && decide (a0_2 = 0))
theorem impl_SetupOk.mono : ∀ a0 a1 a2 k, LeO (impl_SetupOk.f k a0 a1 a2) (impl_SetupOk.f (k + 1) a0 a1 a2) := by
  intro a0 a1 a2 k
  unfold impl_SetupOk.f
  exact LeO.ite (LeO.bind (impl_ThreeNew.mono _ _ _) (fun _ => LeO.refl _)) (LeO.bind (impl_RowNew.mono _ _ _) (fun _ => LeO.refl _))
theorem impl_SetupOk.calls (k : Nat) (a0_0 a0_1 a0_2 : Int) (r : Bool) (w : World) (h : impl_SetupOk.f k a0_0 a0_1 a0_2 = some r) :
    Calls Try.prog 33 #[.agg #[.int .i64 a0_0, .int .i64 a0_1, .int .i64 a0_2]] w fun e w' => e = .returned (.bool r) ∧ Below w.heap.size w w' := by
  unfold impl_SetupOk.f at h
  by_cases c : a0_0 = 4
  · rw [if_pos c] at h
    obtain ⟨⟨r1, r2, r3, r4, r5, ok⟩, h1, h2⟩ := Option.bind_eq_some_iff.mp h
    obtain rfl := Option.some.inj h2
    exact impl_SetupOk.three k _ _ _ r1 r2 r3 r4 r5 ok w c h1
  · rw [if_neg c] at h
    obtain ⟨⟨rk, rc, ri, ok⟩, h1, h2⟩ := Option.bind_eq_some_iff.mp h
    obtain rfl := Option.some.inj h2
    exact impl_SetupOk.row k _ _ _ rk rc ri ok w c h1
def impl_AsksOk.l0 : Nat → List ByteArray → List ByteArray → Int → Int → Option (Bool)
  | 0, _, _, _, _ => none
  | k + 1, x0, x5, x6, x7 => if x7 < x6 then (if 0 ≤ x7 then (if x7 < (x5.length : Int) then ((impl_ItemOk.f k (rdOf ByteArray.empty x5 x7) (⟨#[]⟩ : ByteArray) 0).bind fun t204 => (if t204 = true then (impl_AsksOk.l0 k x0 x5 x6 (wrap64 (x7 + 1))) else (some false))) else (none)) else (none)) else (some (decide ((x0.length : Int) ≤ 300)))
def impl_AsksOk.f (k : Nat) (l0 : List ByteArray) : Option (Bool) := impl_AsksOk.l0 k l0 l0 (l0.length : Int) 0
theorem impl_AsksOk.mono_l : ∀ k, (∀ y0 y1 y2 y3, LeO (impl_AsksOk.l0 k y0 y1 y2 y3) (impl_AsksOk.l0 (k + 1) y0 y1 y2 y3))
  | 0 => fun _ _ _ _ r h => by simp [impl_AsksOk.l0] at h
  | k + 1 => by
    have ih0 := impl_AsksOk.mono_l k
    · intro y0 y1 y2 y3
      unfold impl_AsksOk.l0
      repeat' first
      | (with_reducible exact ih0 _ _ _ _)
      | (with_reducible exact impl_ItemOk.mono _ _ _ _)
      | (with_reducible exact LeO.refl _)
      | (with_reducible exact LeO.none _)
      | (with_reducible refine LeO.ite ?_ ?_)
      | (with_reducible refine LeO.bind ?_ (fun _ => ?_))
      | exact ih0 _ _ _ _
      | exact impl_ItemOk.mono _ _ _ _
      | exact LeO.none _
      | refine LeO.ite ?_ ?_
      | refine LeO.bind ?_ (fun _ => ?_)
theorem impl_AsksOk.mono : ∀ a0 k, LeO (impl_AsksOk.f k a0) (impl_AsksOk.f (k + 1) a0) := by
  intro a0 k
  have ih0 := impl_AsksOk.mono_l k
  unfold impl_AsksOk.f
  repeat' first
      | (with_reducible exact ih0 _ _ _ _)
      | (with_reducible exact impl_ItemOk.mono _ _ _ _)
      | (with_reducible exact LeO.refl _)
      | (with_reducible exact LeO.none _)
      | (with_reducible refine LeO.ite ?_ ?_)
      | (with_reducible refine LeO.bind ?_ (fun _ => ?_))
      | exact ih0 _ _ _ _
      | exact impl_ItemOk.mono _ _ _ _
      | exact LeO.none _
      | refine LeO.ite ?_ ?_
      | refine LeO.bind ?_ (fun _ => ?_)
set_option maxHeartbeats 8000000 in
set_option maxRecDepth 100000 in
theorem impl_AsksOk.calls (k : Nat) (A0 : Option Addr) (c0 : Nat) (l0 : List ByteArray) (r : Bool) (w : World) (hr0 : Kd.C Kd.string w A0 l0.length l0) (hc0 : l0.length ≤ c0) (h : impl_AsksOk.f k l0 = some r) :
    Calls Try.prog 37 #[.slice A0 l0.length c0] w fun e w' => e = .returned (.bool r) ∧ Below w.heap.size w w' := by
  have hu120 := Try.underlying120
  have HR0 := Aside0.mk hr0
  have HC0 := Aside0.mk hc0
  clear hr0 hc0
  have HB := Aside0.mk (Below.refl w.heap.size w)
  have H : (impl_AsksOk.l0 k l0 l0 (l0.length : Int) 0) = some r := h
  clear h
  have H' := Aside0.mk H
  clear H
  go_enter Try.func37, Try.ntmps37
  go_wp2
  go_loopg [7] k (fun kq v7 w' => ∃ (x7_1 : Int), v7 = .int .i64 x7_1 ∧ Aside0 (impl_AsksOk.l0 kq l0 l0 (l0.length : Int) x7_1 = some r) ∧ Aside0 (kq ≤ k) ∧ Aside0 (Below w.heap.size w w'))
  case atStart => exact ⟨(0), (by first | rfl | (simp; done) | (simp [*]; done)), H', ⟨Nat.le_refl _⟩, ⟨by repeat (first | (with_reducible first | exact HB.out | apply below_alloc | apply pw_below_drewN | apply below_drew1) | exact HB.out)⟩⟩
  case round =>
    clear H'
    obtain ⟨x7_1, rfl, HA, HK1, HB⟩ := hrel
    cases gk with
    | zero => exact absurd HA.out (by simp [impl_AsksOk.l0])
    | succ k1 =>
      have H := HA.out
      clear HA
      simp only [impl_AsksOk.l0] at H
      by_cases c2 : x7_1 < (l0.length : Int)
      · rw [if_pos c2] at H
        have c2b0 : decide (x7_1 < (l0.length : Int)) = true := decide_eq_true c2
        clear c2
        by_cases c3 : 0 ≤ x7_1
        · rw [if_pos c3] at H
          have c3b0 : decide (0 ≤ x7_1) = true := decide_eq_true c3
          clear c3
          by_cases c4 : x7_1 < (l0.length : Int)
          · rw [if_pos c4] at H
            have c4b0 : decide (x7_1 < (l0.length : Int)) = true := decide_eq_true c4
            clear c4
            replace H := Option.bind_eq_some_iff.mp H
            obtain ⟨t204, A50, H⟩ := H
            replace H : (if t204 = true then (impl_AsksOk.l0 k1 l0 l0 (l0.length : Int) (wrap64 (x7_1 + 1))) else (some false)) = some r := H
            have A5 := Aside0.mk A50
            clear A50
            by_cases c6 : t204 = true
            · subst c6
              have H1 : (impl_AsksOk.l0 k1 l0 l0 (l0.length : Int) (wrap64 (x7_1 + 1))) = some r := by rw [if_pos rfl] at H; exact H
              clear H
              have H := H1
              clear H1
              have H' := Aside0.mk H
              clear H
              have p203 : 0 ≤ (x7_1 : Int) := of_decide_eq_true (by first | (with_reducible assumption) | assumption)
              have q203 : x7_1 < (l0.length : Int) := of_decide_eq_true (by first | (with_reducible assumption) | assumption)
              obtain ⟨ad203, e203, hx203_0⟩ := Kd.at_string HR0.out x7_1 p203 q203
              cases e203
              replace hx203_0 := (HB.out.cell (World.block_lt_of_cell? w _ hx203_0)).trans hx203_0
              replace p203 := eq_true p203
              replace q203 := eq_true q203
              go_wp2_with (first | ((with_reducible refine gate_callee (f := 78) rfl ?_); refine goesL_ (some 13) rfl rfl Try.func78 (by kernel_rfl) rfl #[.agg #[.string (rdOf ByteArray.empty l0 x7_1), .string (⟨#[]⟩ : ByteArray), .int .i64 0]] rfl (by (try simp only [List.map_toArray, List.map_cons, List.map_nil]); first | done | rfl | (simp only [List.length_drop, List.length_take]; rfl)) ?_; (with_reducible refine (impl_ItemOk.calls k1 (rdOf ByteArray.empty l0 x7_1) (⟨#[]⟩ : ByteArray) 0 true _ A5.out).mono ?_); rintro e w7 ⟨rfl, hb⟩; refine ⟨_, rfl, ?_⟩; have n0_ := Aside0.mk (below_step (by repeat (first | (with_reducible first | exact HB.out | apply below_alloc | apply pw_below_drewN | apply below_drew1) | exact HB.out)) hb); clear HB; have HB := n0_; clear n0_; (try clear hb); (try clear hb2); (try clear hk); (try clear hi)))
              go_roundg k1
              case measure => have := HK1.out; omega
              case rel => exact ⟨(wrap64 (x7_1 + 1)), (by first | rfl | (simp; done) | (simp [*]; done)), H', ⟨by have := HK1.out; omega⟩, ⟨by repeat (first | (with_reducible first | exact HB.out | apply below_alloc | apply pw_below_drewN | apply below_drew1) | exact HB.out)⟩⟩
            · replace c6 := Bool.eq_false_iff.mpr c6
              subst c6
              have H1 : (some false) = some r := by rw [if_neg (show ¬ (false = true) by decide)] at H; exact H
              clear H
              have H := H1
              clear H1
              obtain rfl := Option.some.inj H
              have p203 : 0 ≤ (x7_1 : Int) := of_decide_eq_true (by first | (with_reducible assumption) | assumption)
              have q203 : x7_1 < (l0.length : Int) := of_decide_eq_true (by first | (with_reducible assumption) | assumption)
              obtain ⟨ad203, e203, hx203_0⟩ := Kd.at_string HR0.out x7_1 p203 q203
              cases e203
              replace hx203_0 := (HB.out.cell (World.block_lt_of_cell? w _ hx203_0)).trans hx203_0
              replace p203 := eq_true p203
              replace q203 := eq_true q203
              go_wp2_with (first | ((with_reducible refine gate_callee (f := 78) rfl ?_); refine goesL_ (some 13) rfl rfl Try.func78 (by kernel_rfl) rfl #[.agg #[.string (rdOf ByteArray.empty l0 x7_1), .string (⟨#[]⟩ : ByteArray), .int .i64 0]] rfl (by (try simp only [List.map_toArray, List.map_cons, List.map_nil]); first | done | rfl | (simp only [List.length_drop, List.length_take]; rfl)) ?_; (with_reducible refine (impl_ItemOk.calls k1 (rdOf ByteArray.empty l0 x7_1) (⟨#[]⟩ : ByteArray) 0 false _ A5.out).mono ?_); rintro e w8 ⟨rfl, hb⟩; refine ⟨_, rfl, ?_⟩; have n0_ := Aside0.mk (below_step (by repeat (first | (with_reducible first | exact HB.out | apply below_alloc | apply pw_below_drewN | apply below_drew1) | exact HB.out)) hb); clear HB; have HB := n0_; clear n0_; (try clear hb); (try clear hb2); (try clear hk); (try clear hi)))
              go_ret
              exact ⟨by first | rfl | (simp [errW_none, errW_some] <;> rfl) | (simp [*, errW_none, errW_some] <;> rfl), by repeat (first | (with_reducible first | exact HB.out | apply below_alloc | apply pw_below_drewN | apply below_drew1) | exact HB.out)⟩
          · rw [if_neg c4] at H
            exact absurd H (by simp)
        · rw [if_neg c3] at H
          exact absurd H (by simp)
      · rw [if_neg c2] at H
        have c2b0 : decide (x7_1 < (l0.length : Int)) = false := decide_eq_false c2
        clear c2
        obtain rfl := Option.some.inj H
        go_wp2
        go_ret
        exact ⟨by first | rfl | (simp [errW_none, errW_some] <;> rfl) | (simp [*, errW_none, errW_some] <;> rfl), by repeat (first | (with_reducible first | exact HB.out | apply below_alloc | apply pw_below_drewN | apply below_drew1) | exact HB.out)⟩
def impl_copyInts.f (l0 : List Int) : Option (List Int) := if l0.length < 17592186044416 then some l0 else none
set_option maxHeartbeats 8000000 in
set_option maxRecDepth 100000 in
theorem impl_copyInts.calls (A0 : Option Addr) (c0 : Nat) (l0 : List Int) (r : List Int) (w : World) (hr0 : Kd.C (Kd.int .i64) w A0 l0.length l0) (hc0 : l0.length ≤ c0) (h : impl_copyInts.f l0 = some r) :
    Calls Try.prog 166 #[.slice A0 l0.length c0] w fun e w' => ∃ v0_ : Value, e = .returned (v0_) ∧ Kd.R (Kd.int .i64) 3 w' w.heap.size (fun _ => True) v0_ r ∧ Below w.heap.size w w' := by
  unfold impl_copyInts.f at h
  by_cases c2 : l0.length < 17592186044416
  · rw [if_pos c2] at h
    have LM := Aside0.mk c2
    obtain rfl := Option.some.inj h
    have HR0 := Aside0.mk hr0
    clear hr0 hc0 h c2
    go_enter Try.func166, Try.ntmps166
    go_wp2_with (first | ((with_reducible refine gate_builtin (b := .append) (xs := #[.const (.slice none 0 0), .tmp 3]) rfl ?_); at_builtin; refine Kd.R_append_rows (Kd.int .i64) (w0 := w) w.heap.size rfl (.const (.slice none 0 0)) (.tmp 3) 63 3 (.int .i64 0) 8 rfl Try.underlying63 info3 rfl (by decide) (by omega) (.slice none 0 0) [] l0 _ _ _ (fun _ => True) (fun _ => False) rfl rfl ?aO ?aR (fun _ _ h => h) (fun _ h => h.elim) ?aF ?aB ?aS ?aL ?_; (case aR => exact HR0.out); (case aB => exact Below.refl _ _); (case aF => exact (fun _ _ => trivial)); (case aO => exact Kd.R_nil _ _ _ _ _); (case aS => exact Nat.le_refl _); (case aL => have := LM.out; simp; omega); intro v1 w1 ho hb hg hat; rw [List.nil_append] at ho; have HO := Aside0.mk ho; have HB := Aside0.mk hb; clear ho hb hg hat))
    go_ret
    exact ⟨_, rfl, HO.out, HB.out⟩
  · rw [if_neg c2] at h
    exact absurd h (by simp)
end Go.Proofs.Ytkaahabgbngodaa.Core
end
