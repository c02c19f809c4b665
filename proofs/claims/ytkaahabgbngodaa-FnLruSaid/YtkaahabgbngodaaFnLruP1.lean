/- Plain laws for FnLru, part 1: what the contracts' functions compute answers as the statement says. -/
import Derived.Test.YtkaahabgbngodaaFnLruC1
import Derived.Test.YtkaahabgbngodaaFnLruC2
import Derived.Test.YtkaahabgbngodaaFnLruC3
import Derived.IntWalk

namespace Go.Proofs.Ytkaahabgbngodaa.Pure
open Go.RowKit Go.Proofs.Ytkaahabgbngodaa.Core Go.Proofs.YtkaahabgbngodaaW.PrintWords Go.Proofs.YtkaahabgbngodaaW.PrintLast Go.IntWalk
set_option linter.unusedSimpArgs false
set_option linter.unusedVariables false

/-- With rounds enough it tells v. -/
def Ev {α : Type} (F : Nat → Option α) (v : α) : Prop := ∃ k0, ∀ k, k0 ≤ k → F k = some v
theorem Ev.of {α : Type} {F : Nat → Option α} {v : α} (h : ∀ k, F k = some v) : Ev F v := ⟨0, fun k _ => h k⟩
theorem Ev.some {α : Type} {v : α} : Ev (fun _ => some v) v := ⟨0, fun _ _ => rfl⟩
theorem Ev.bind {α β : Type} {F : Nat → Option α} {G : α → Nat → Option β} {a : α} {b : β} (h1 : Ev F a) (h2 : Ev (G a) b) : Ev (fun k => (F k).bind (fun x => G x k)) b := by
  obtain ⟨k1, h1⟩ := h1
  obtain ⟨k2, h2⟩ := h2
  exact ⟨k1 + k2, fun k hk => by show (F k).bind (fun x => G x k) = _; rw [h1 k (by omega)]; exact h2 k (by omega)⟩
theorem Ev.succ {α : Type} {F : Nat → Option α} {v : α} (h : Ev (fun k => F (k + 1)) v) : Ev F v := by
  obtain ⟨k0, h⟩ := h
  refine ⟨k0 + 1, fun k hk => ?_⟩
  obtain ⟨j, rfl⟩ : ∃ j, k = j + 1 := ⟨k - 1, by omega⟩
  exact h j (by omega)
theorem Ev.some' {α : Type} {F : Nat → Option α} {v : α} (h : Ev F v) : ∃ k, F k = Option.some v := ⟨_, h.choose_spec _ (Nat.le_refl _)⟩
theorem Ev.eq {α : Type} {F : Nat → Option α} {v u : α} (h : Ev F v) (e : v = u) : Ev F u := e ▸ h
theorem Ev.cong {α : Type} {F G : Nat → Option α} {v : α} (h : Ev F v) (e : ∀ k, G k = F k) : Ev G v := ⟨h.choose, fun k hk => (e k).trans (h.choose_spec k hk)⟩
theorem bt_loop (bs : ByteArray) : ∀ (n i : Nat) (r : List UInt8), i + n = bs.size → ByteArray.toList.loop bs i r = r.reverse ++ bs.data.toList.drop i := by
  intro n
  induction n with
  | zero =>
    intro i r h
    rw [ByteArray.toList.loop, if_neg (by omega), List.drop_eq_nil_of_le (by rw [Array.length_toList]; have e : bs.size = bs.data.size := rfl; omega)]
    simp
  | succ n ih =>
    intro i r h
    rw [ByteArray.toList.loop, if_pos (by omega), ih (i + 1) _ (by omega)]
    have hi : i < bs.data.toList.length := by rw [Array.length_toList]; have e : bs.size = bs.data.size := rfl; omega
    rw [List.drop_eq_getElem_cons hi]
    have : bs.get! i = bs.data.toList[i] := by
      simp [ByteArray.get!]
      rw [getElem!_pos bs.data i (by simpa using hi)]
    rw [this]
    simp
theorem bt_data (a : ByteArray) : a.toList = a.data.toList := by
  rw [ByteArray.toList, bt_loop a a.size 0 [] (by omega)]
  simp
theorem bt_inj {a b : ByteArray} (h : a.toList = b.toList) : a = b := by
  rw [bt_data, bt_data] at h
  exact ByteArray.ext (Array.toList_inj.mp h)
instance : DecidableEq ByteArray := fun a b => decidable_of_iff (a.data.toList = b.data.toList) ⟨fun h => ByteArray.ext (Array.toList_inj.mp h), fun h => by rw [h]⟩
instance (a : ByteArray) (l : List ByteArray) : Decidable (a ∈ l) := @List.instDecidableMemOfLawfulBEq _ instBEqOfDecidableEq inferInstance a l
theorem toList_eq {a b : ByteArray} : (a.toList = b.toList) ↔ a = b := ⟨bt_inj, fun h => by rw [h]⟩
theorem bits255 (x : Int) : 0 ≤ Go.bits .and .i64 x 255 ∧ Go.bits .and .i64 x 255 ≤ 255 := by
  unfold Go.bits
  dsimp only
  have h : (BitVec.ofInt (Go.IntKind.i64).bits x &&& BitVec.ofInt (Go.IntKind.i64).bits 255).toNat ≤ 255 := by
    rw [BitVec.toNat_and]; exact Nat.and_le_right
  generalize (BitVec.ofInt (Go.IntKind.i64).bits x &&& BitVec.ofInt (Go.IntKind.i64).bits 255).toNat = n at h
  rw [i64_left, wrap64_in _ (by omega)]
  omega
/-- A byte of the source. -/
theorem byte_ok (b : List Int) (at_ st : Int) (h : 0 ≤ at_) (hl : (b.length : Int) ≤ 1048576) (h2 : at_ ≤ 1048576 + 1) : ∃ r a s, spec_l01Byte.f b at_ st = some (r, a, s) ∧ 0 ≤ r ∧ r ≤ 255 ∧ 0 ≤ a ∧ a ≤ 1048576 + 1 := by
  unfold spec_l01Byte.f
  by_cases c : at_ < (b.length : Int)
  · rw [if_pos c, if_pos h]
    refine ⟨_, _, _, rfl, (bits255 _).1, (bits255 _).2, ?_, ?_⟩ <;> rw [wrap64_in _ (by omega)] <;> omega
  · rw [if_neg c]
    exact ⟨_, _, _, rfl, (bits255 _).1, (bits255 _).2, h, h2⟩
/-- The source is right: what it reads of the bytes stays in them. -/
def Src (b : List Int) (a : Int) : Prop := (b.length : Int) ≤ 1048576 ∧ 0 ≤ a ∧ a ≤ 1048576 + 1
theorem below_ok (b : List Int) (a s n : Int) (h : Src b a) (hn : 0 < n) (hn2 : n ≤ 256) : ∃ r a' s', spec_l01Below.f b a s n = some (r, a', s') ∧ 0 ≤ r ∧ r < n ∧ Src b a' := by
  obtain ⟨r, a', s', e, h1, h2, h3, h4⟩ := byte_ok b a s h.2.1 h.1 h.2.2
  unfold spec_l01Below.f
  rw [if_neg (by omega), if_pos hn2, e]
  refine ⟨Int.tmod r n, a', s', ?_, Int.tmod_nonneg _ h1, Int.tmod_lt_of_pos _ hn, h.1, h3, h4⟩
  show (if n = 0 then none else some (Int.tmod r n, a', s')) = _
  rw [if_neg (by omega)]
theorem new_ok (b : List Int) (h : (b.length : Int) ≤ 1048576) : ∃ s, Ev (fun k => spec_l01New.f k b) (b, 0, s) := by
  have key : ∀ (n : Nat) (x i : Int), 0 ≤ i → i + n = 4000 → ∃ s, Ev (fun k => spec_l01New.l0 k b x i) (b, 0, s) := by
    intro n
    induction n with
    | zero =>
      intro x i h0 hi
      refine ⟨x, Ev.succ ?_⟩
      simp only [spec_l01New.l0]
      by_cases c : i < (b.length : Int)
      · simp only [if_pos c, if_neg (show ¬ i < 4000 by omega)]; exact Ev.some
      · simp only [if_neg c]; exact Ev.some
    | succ n ih =>
      intro x i h0 hi
      by_cases c : i < (b.length : Int)
      · obtain ⟨s, hs⟩ := ih (Go.bits .and .i64 (wrap64 ((wrap64 ((wrap64 (x * 179)) + (wrap64 (rd b i)))) + 7)) 1073741823) (wrap64 (i + 1)) (by rw [wrap64_in _ (by omega)]; omega) (by rw [wrap64_in _ (by omega)]; omega)
        refine ⟨s, Ev.succ ?_⟩
        simp only [spec_l01New.l0]
        simp only [if_pos c, if_pos (show i < 4000 by omega), if_pos h0]
        exact hs
      · refine ⟨x, Ev.succ ?_⟩
        simp only [spec_l01New.l0, if_neg c]
        exact Ev.some
  exact key 4000 _ 0 (by omega) (by omega)
/-- A number below n of the bytes. -/
theorem num_ok (b : List Int) (n : Int) (h : (b.length : Int) ≤ 1048576) (hn : 0 < n) (hn2 : n ≤ 256) : ∃ r, Ev (fun k => spec_MakeNum.f k b n) r ∧ 0 ≤ r ∧ r < n := by
  obtain ⟨s, hs⟩ := new_ok b h
  obtain ⟨r, a', s', e, h1, h2, _⟩ := below_ok b 0 (wrap64 (s + 777)) n ⟨h, by omega, by omega⟩ hn hn2
  refine ⟨r, ?_, h1, h2⟩
  unfold spec_MakeNum.f
  refine Ev.bind hs ?_
  dsimp only
  refine Ev.of (fun k => ?_)
  rw [e]; rfl
/-- The keys that asks are made of. -/
def K8 : List ByteArray := [⟨#[97]⟩, ⟨#[98]⟩, ⟨#[99]⟩, ⟨#[100]⟩, ⟨#[101]⟩, ⟨#[102]⟩, ⟨#[103]⟩, ⟨#[104]⟩]
theorem rdOf_mem (l : List ByteArray) (i : Int) (h0 : 0 ≤ i) (h1 : i < (l.length : Int)) : rdOf ByteArray.empty l i ∈ l := by
  have h2 : i.toNat < l.length := by omega
  have : rdOf ByteArray.empty l i = l[i.toNat] := by simp [rdOf, h2]
  rw [this]; exact List.getElem_mem h2
theorem key_ok (b : List Int) (a s : Int) (h : Src b a) : ∃ r a' s', spec_l10Key.f b a s = some (r, a', s') ∧ r ∈ K8 ∧ Src b a' := by
  obtain ⟨i, a', s', e, h1, h2, h3⟩ := below_ok b a s (K8.length : Int) h (by decide) (by decide)
  refine ⟨rdOf ByteArray.empty K8 i, a', s', ?_, rdOf_mem K8 i h1 h2, h3⟩
  show (spec_l01Of.f b a s K8).bind _ = _
  unfold spec_l01Of.f
  rw [e]
  show ((if 0 ≤ i then (if i < (K8.length : Int) then some (rdOf ByteArray.empty K8 i, a', s') else none) else none)).bind _ = _
  rw [if_pos h1, if_pos h2]; rfl
theorem asks_ok (b : List Int) (n : Int) (h : (b.length : Int) ≤ 1048576) (hn : 0 < n) (hn2 : n ≤ 255) : ∃ l, Ev (fun k => spec_MakeAsks.f k b n) l ∧ (l.length : Int) ≤ n ∧ ∀ x ∈ l, x ∈ K8 := by
  have key : ∀ (m : Nat) (l : List ByteArray) (a s : Int), Src b a → (l.length : Int) + m ≤ n → (∀ x ∈ l, x ∈ K8) → ∃ q a' s', Ev (fun k => spec_l12Asks.l0 k l m b a s) (q, a', s') ∧ (q.length : Int) ≤ n ∧ ∀ x ∈ q, x ∈ K8 := by
    intro m
    induction m with
    | zero =>
      intro l a s hs hl hk
      refine ⟨l, a, s, Ev.succ ?_, by omega, hk⟩
      simp only [spec_l12Asks.l0, if_neg (show ¬ ((0 : Nat) : Int) > 0 by simp)]
      exact Ev.some
    | succ m ih =>
      intro l a s hs hl hk
      obtain ⟨r, a1, s1, e1, g1, g2, hs1⟩ := below_ok b a s 3 hs (by decide) (by decide)
      have hw : wrap64 (((m + 1 : Nat) : Int) - 1) = (m : Int) := by rw [wrap64_in _ (by omega)]; omega
      obtain ⟨y, a2, s2, e2, hy, hs2⟩ := key_ok b a1 s1 hs1
      have fresh : ∃ q a' s', Ev (fun k => spec_l12Asks.j1 k l ((m + 1 : Nat) : Int) false b a1 s1) (q, a', s') ∧ (q.length : Int) ≤ n ∧ ∀ x ∈ q, x ∈ K8 := by
        obtain ⟨q, a', s', e, h1, h2⟩ := ih (l ++ [y]) a2 s2 hs2 (by simp; omega) (by intro x hx; rcases List.mem_append.mp hx with hx | hx; exact hk x hx; rw [List.mem_singleton.mp hx]; exact hy)
        refine ⟨q, a', s', Ev.succ ?_, h1, h2⟩
        simp only [spec_l12Asks.j1, if_neg (show ¬ (false = true) by simp)]
        simp only [e2, Option.bind_some, if_pos (show l.length < 8796093022208 by omega), hw]
        exact e
      have old : l.length > 0 → ∃ q a' s', Ev (fun k => spec_l12Asks.j1 k l ((m + 1 : Nat) : Int) true b a1 s1) (q, a', s') ∧ (q.length : Int) ≤ n ∧ ∀ x ∈ q, x ∈ K8 := by
        intro hl0
        obtain ⟨i, a3, s3, e3, g3, g4, hs3⟩ := below_ok b a1 s1 (l.length : Int) hs1 (by omega) (by omega)
        obtain ⟨q, a', s', e, h1, h2⟩ := ih (l ++ [rdOf ByteArray.empty l i]) a3 s3 hs3 (by simp; omega) (by intro x hx; rcases List.mem_append.mp hx with hx | hx; exact hk x hx; rw [List.mem_singleton.mp hx]; exact hk _ (rdOf_mem l i g3 g4))
        refine ⟨q, a', s', Ev.succ ?_, h1, h2⟩
        simp only [spec_l12Asks.j1, if_pos (show true = true from rfl)]
        simp only [e3, Option.bind_some, if_pos (show l.length < 8796093022208 by omega), if_pos g3, if_pos g4, hw]
        exact e
      have both : ∀ z : Bool, (z = true → l.length > 0) → ∃ q a' s', Ev (fun k => spec_l12Asks.j1 k l ((m + 1 : Nat) : Int) z b a1 s1) (q, a', s') ∧ (q.length : Int) ≤ n ∧ ∀ x ∈ q, x ∈ K8 := by
        intro z hz
        cases z with
        | true => exact old (hz rfl)
        | false => exact fresh
      obtain ⟨q, a', s', e, h1, h2⟩ := both (if r = 0 then decide ((l.length : Int) > 0) else false) (by
        intro hz
        by_cases c : r = 0
        · rw [if_pos c] at hz; simpa using hz
        · rw [if_neg c] at hz; exact absurd hz (by simp))
      refine ⟨q, a', s', Ev.succ ?_, h1, h2⟩
      simp only [spec_l12Asks.l0, if_pos (show ((m + 1 : Nat) : Int) > 0 by omega)]
      simp only [e1, Option.bind_some]
      by_cases c : r = 0
      · rw [if_pos c] at e; simp only [if_pos c]; exact e
      · rw [if_neg c] at e; simp only [if_neg c]; exact e
  obtain ⟨s, hs⟩ := new_ok b h
  obtain ⟨r, a1, s1, e1, g1, g2, hs1⟩ := below_ok b 0 (wrap64 (s + 17)) (wrap64 (n + 1)) ⟨h, by omega, by omega⟩ (by rw [wrap64_in _ (by omega)]; omega) (by rw [wrap64_in _ (by omega)]; omega)
  rw [wrap64_in (n + 1) (by omega)] at g2
  obtain ⟨q, a', s', e, h1, h2⟩ := key r.toNat [] a1 s1 hs1 (by simp; omega) (by simp)
  refine ⟨q, ?_, h1, h2⟩
  unfold spec_MakeAsks.f
  refine Ev.bind hs ?_
  dsimp only
  unfold spec_l12Asks.f
  refine Ev.bind (a := (q, a', s')) ?_ Ev.some
  refine Ev.cong e (fun k => ?_)
  rw [e1]
  show spec_l12Asks.l0 k _ r _ _ _ = _
  rw [show r = (r.toNat : Int) by omega]; rfl
end Go.Proofs.Ytkaahabgbngodaa.Pure

namespace Go.Proofs.Ytkaahabgbngodaa.Pure
open Go.RowKit Go.Proofs.Ytkaahabgbngodaa.Core Go.Proofs.YtkaahabgbngodaaW.PrintWords Go.Proofs.YtkaahabgbngodaaW.PrintLast Go.IntWalk
set_option linter.unusedSimpArgs false
set_option linter.unusedVariables false

theorem rdOf_mid {α : Type} (d : α) (pre s : List α) (x : α) : rdOf d (pre ++ x :: s) ((pre.length : Nat) : Int) = x := by simp [rdOf, List.getD_eq_getElem?_getD]
theorem up (n : Nat) (h : n < 1000000000) : wrap64 ((n : Int) + 1) = ((n + 1 : Nat) : Int) := by rw [wrap64_in _ (by omega)]; omega
theorem up' {α : Type} (pre : List α) (x : α) (h : pre.length < 1000000000) : wrap64 ((pre.length : Int) + 1) = (((pre ++ [x]).length : Nat) : Int) := by rw [up _ h]; simp
theorem idx_loop (l : List ByteArray) (a : ByteArray) (hl : l.length ≤ 1000000) : ∀ (s pre : List ByteArray), l = pre ++ s → ∃ r, Ev (fun k => slices_Index_string_string.l0 k l a (l.length : Int) (pre.length : Int)) r ∧ (r ≥ 0 ↔ a ∈ s) := by
  intro s
  induction s with
  | nil =>
    intro pre h
    refine ⟨-1, Ev.succ ?_, by simp⟩
    simp only [slices_Index_string_string.l0, if_neg (show ¬ (pre.length : Int) < (l.length : Int) by rw [h]; simp)]
    exact Ev.some
  | cons x s ih =>
    intro pre h
    have hx : rdOf ByteArray.empty l (pre.length : Int) = x := by rw [h]; exact rdOf_mid _ _ _ _
    have h1 : (pre.length : Int) < (l.length : Int) := by rw [h]; simp; omega
    by_cases c : a = x
    · refine ⟨(pre.length : Int), Ev.succ ?_, by simp [c]⟩
      simp only [slices_Index_string_string.l0, if_pos h1, if_pos (show 0 ≤ (pre.length : Int) by omega), hx, if_pos (congrArg ByteArray.toList c)]
      exact Ev.some
    · obtain ⟨r, e, hr⟩ := ih (pre ++ [x]) (by rw [h]; simp)
      refine ⟨r, Ev.succ ?_, by rw [hr]; simp [c]⟩
      simp only [slices_Index_string_string.l0, if_pos h1, if_pos (show 0 ≤ (pre.length : Int) by omega), hx, if_neg (fun he => c (bt_inj he)), up' pre x (by omega)]
      exact e
theorem contains_ok (l : List ByteArray) (a : ByteArray) (hl : l.length ≤ 1000000) : Ev (fun k => slices_Contains_string_string.f k l a) (decide (a ∈ l)) := by
  obtain ⟨r, e, hr⟩ := idx_loop l a hl l [] (by simp)
  unfold slices_Contains_string_string.f slices_Index_string_string.f
  refine Ev.bind e ?_
  refine Ev.eq Ev.some ?_
  exact decide_eq_decide.mpr hr
/-- What is there once, in the order of the first places. -/
def dd (acc : List ByteArray) : List ByteArray → List ByteArray
  | [] => acc
  | x :: s => if x ∈ acc then dd acc s else dd (acc ++ [x]) s
theorem dd_mem (s acc : List ByteArray) (y : ByteArray) : y ∈ dd acc s ↔ y ∈ acc ∨ y ∈ s := by
  induction s generalizing acc with
  | nil => simp [dd]
  | cons x s ih =>
    rw [dd]
    split
    · rename_i h
      rw [ih]; simp only [List.mem_cons]
      constructor
      · rintro (h1 | h1)
        · exact .inl h1
        · exact .inr (.inr h1)
      · rintro (h1 | rfl | h1)
        · exact .inl h1
        · exact .inl h
        · exact .inr h1
    · rw [ih]; simp only [List.mem_cons, List.mem_append, List.not_mem_nil, or_false]
      constructor
      · rintro ((h1 | h1) | h1)
        · exact .inl h1
        · exact .inr (.inl h1)
        · exact .inr (.inr h1)
      · rintro (h1 | h1 | h1)
        · exact .inl (.inl h1)
        · exact .inl (.inr h1)
        · exact .inr h1
theorem dd_nodup (s acc : List ByteArray) (h : acc.Nodup) : (dd acc s).Nodup := by
  induction s generalizing acc with
  | nil => exact h
  | cons x s ih =>
    rw [dd]
    split
    · exact ih _ h
    · rename_i hx
      refine ih _ ?_
      rw [List.nodup_append]
      refine ⟨h, by simp, ?_⟩
      intro a ha b hb
      rw [List.mem_singleton.mp hb]
      rintro rfl
      exact hx ha
theorem dd_length (s acc : List ByteArray) : (dd acc s).length ≤ acc.length + s.length := by
  induction s generalizing acc with
  | nil => simp [dd]
  | cons x s ih =>
    rw [dd]
    split
    · have := ih acc; simp; omega
    · have := ih (acc ++ [x]); simp at this ⊢; omega
theorem distinct_loop (l : List ByteArray) (hl : l.length ≤ 1000) : ∀ (s pre acc : List ByteArray), l = pre ++ s → acc.length ≤ pre.length → Ev (fun k => impl_Distinct.l0 k acc l (l.length : Int) (pre.length : Int)) (dd acc s) := by
  intro s
  induction s with
  | nil =>
    intro pre acc h ha
    refine Ev.succ ?_
    simp only [impl_Distinct.l0, if_neg (show ¬ (pre.length : Int) < (l.length : Int) by rw [h]; simp)]
    exact Ev.some
  | cons x s ih =>
    intro pre acc h ha
    have hx : rdOf ByteArray.empty l (pre.length : Int) = x := by rw [h]; exact rdOf_mid _ _ _ _
    have h1 : (pre.length : Int) < (l.length : Int) := by rw [h]; simp; omega
    have h2 : l.length = pre.length + (x :: s).length := by rw [h]; simp
    refine Ev.succ ?_
    simp only [impl_Distinct.l0, if_pos h1, if_pos (show 0 ≤ (pre.length : Int) by omega), hx]
    refine Ev.bind (contains_ok acc x (by simp at h2; omega)) ?_
    rw [dd]
    by_cases c : x ∈ acc
    · simp only [c, decide_true, if_true, up' pre x (by simp at h2; omega)]
      exact ih (pre ++ [x]) acc (by rw [h]; simp) (by simp; omega)
    · simp only [c, decide_false, if_false, Bool.false_eq_true, up' pre x (by simp at h2; omega), if_pos (show acc.length < 8796093022208 by simp at h2; omega)]
      exact ih (pre ++ [x]) (acc ++ [x]) (by rw [h]; simp) (by simp; omega)
theorem distinct_ok (l : List ByteArray) (hl : l.length ≤ 1000) : Ev (fun k => impl_Distinct.f k l) (dd [] l) := distinct_loop l hl l [] [] (by simp) (by simp)
theorem same_loop (l : List ByteArray) (hl : l.length ≤ 1000000) : ∀ (s pre : List ByteArray), l = pre ++ s → Ev (fun k => laws_sameTexts.l0 k l l (l.length : Int) (pre.length : Int)) true := by
  intro s
  induction s with
  | nil =>
    intro pre h
    refine Ev.succ ?_
    simp only [laws_sameTexts.l0, if_neg (show ¬ (pre.length : Int) < (l.length : Int) by rw [h]; simp)]
    exact Ev.some
  | cons x s ih =>
    intro pre h
    have h1 : (pre.length : Int) < (l.length : Int) := by rw [h]; simp; omega
    refine Ev.succ ?_
    simp only [laws_sameTexts.l0, if_pos h1, if_pos (show 0 ≤ (pre.length : Int) by omega), if_true, up' pre x (by omega)]
    exact ih (pre ++ [x]) (by rw [h]; simp)
theorem same_ok (l : List ByteArray) (hl : l.length ≤ 1000000) : Ev (fun k => laws_sameTexts.f k l l) true := by
  unfold laws_sameTexts.f
  simp only [if_true]
  exact same_loop l hl l [] (by simp)
theorem less_ok (b : Bool) : laws_less.f b = some (if b = true then 1 else 0) := by
  unfold laws_less.f
  split <;> rfl
/-- No blank and no end of line. -/
def Plain (x : ByteArray) : Prop := x.size ≤ 1000 ∧ ∀ i : Nat, i < x.size → bt x i ≠ 32 ∧ bt x i ≠ 10
theorem plain_ok (x : ByteArray) (h : Plain x) : Ev (fun k => impl_isPlain.f k x) true := by
  have key : ∀ (n i : Nat), i + n = x.size → Ev (fun k => impl_isPlain.l0 k x (i : Int)) true := by
    intro n
    induction n with
    | zero =>
      intro i hi
      refine Ev.succ ?_
      simp only [impl_isPlain.l0, if_neg (show ¬ (i : Int) < (x.size : Int) by omega)]
      exact Ev.some
    | succ n ih =>
      intro i hi
      refine Ev.succ ?_
      have h1 := h.2 i (by omega)
      have h2 := h.1
      simp only [impl_isPlain.l0, if_pos (show (i : Int) < (x.size : Int) by omega), if_pos (show 0 ≤ (i : Int) by omega), if_neg h1.1, if_neg h1.2, up i (by omega)]
      exact ih (i + 1) (by omega)
  exact key x.size 0 (by omega)
theorem within_ok (a lo hi : Int) (h1 : lo ≤ a) (h2 : a ≤ hi) : impl_within.f a lo hi = some true := by
  unfold impl_within.f
  rw [if_pos h1]; simp [h2]
/-- A key that is right. -/
def KeyOk (x : ByteArray) : Prop := 1 ≤ x.size ∧ x.size ≤ 20 ∧ Plain x
/-- A value that is right. -/
def ValOk (x : ByteArray) : Prop := x.size ≤ 40 ∧ Plain x
theorem item_ok (x v : ByteArray) (fr : Int) (h : KeyOk x) (hv : ValOk v) (h0 : 0 ≤ fr) (h3 : fr ≤ 3) : Ev (fun k => impl_ItemOk.f k x v fr) true := by
  unfold impl_ItemOk.f
  rw [within_ok (x.size : Int) 1 20 (by have := h.1; omega) (by have := h.2.1; omega)]
  simp only [Option.bind_some, if_true, if_pos (show (v.size : Int) ≤ 40 by have := hv.1; omega)]
  refine Ev.bind (plain_ok x h.2.2) ?_
  simp only [if_true]
  refine Ev.bind (plain_ok v hv.2) ?_
  simp only [if_true]
  rw [within_ok fr 0 3 h0 h3]
  exact Ev.some
theorem val_empty : ValOk ⟨#[]⟩ := ⟨by decide, by decide, fun i hi => absurd hi (by simp [ByteArray.size])⟩
theorem asks_loop (l : List ByteArray) (hl : l.length ≤ 300) (hk : ∀ x ∈ l, KeyOk x) : ∀ (s pre : List ByteArray), l = pre ++ s → Ev (fun k => impl_AsksOk.l0 k l l (l.length : Int) (pre.length : Int)) true := by
  intro s
  induction s with
  | nil =>
    intro pre h
    refine Ev.succ ?_
    simp only [impl_AsksOk.l0, if_neg (show ¬ (pre.length : Int) < (l.length : Int) by rw [h]; simp)]
    refine Ev.eq Ev.some ?_
    simp; omega
  | cons x s ih =>
    intro pre h
    have hx : rdOf ByteArray.empty l (pre.length : Int) = x := by rw [h]; exact rdOf_mid _ _ _ _
    have h1 : (pre.length : Int) < (l.length : Int) := by rw [h]; simp; omega
    refine Ev.succ ?_
    simp only [impl_AsksOk.l0, if_pos h1, if_pos (show 0 ≤ (pre.length : Int) by omega), hx]
    refine Ev.bind (item_ok x _ 0 (hk x (by rw [h]; simp)) val_empty (by omega) (by omega)) ?_
    simp only [if_true, up' pre x (by omega)]
    exact ih (pre ++ [x]) (by rw [h]; simp)
theorem asksok_ok (l : List ByteArray) (hl : l.length ≤ 300) (hk : ∀ x ∈ l, KeyOk x) : Ev (fun k => impl_AsksOk.f k l) true := asks_loop l hl hk l [] (by simp)
theorem key8 : ∀ x ∈ K8, KeyOk x := by
  have one : ∀ c : UInt8, c ≠ 32 → c ≠ 10 → KeyOk ⟨#[c]⟩ := by
    intro c h1 h2
    refine ⟨by simp [ByteArray.size], by simp [ByteArray.size], by simp [ByteArray.size], fun i hi => ?_⟩
    have : i = 0 := by simp [ByteArray.size] at hi; exact hi
    subst this
    have hb : bt ⟨#[c]⟩ ((0 : Nat) : Int) = (c.toNat : Int) := rfl
    rw [hb]
    constructor
    · intro he; exact h1 (UInt8.toNat_inj.mp (by have : c.toNat = 32 := by omega
                                                 rw [this]; rfl))
    · intro he; exact h2 (UInt8.toNat_inj.mp (by have : c.toNat = 10 := by omega
                                                 rw [this]; rfl))
  intro x hx
  simp only [K8, List.mem_cons, List.not_mem_nil, or_false] at hx
  rcases hx with rfl | rfl | rfl | rfl | rfl | rfl | rfl | rfl <;> exact one _ (by decide) (by decide)
end Go.Proofs.Ytkaahabgbngodaa.Pure

namespace Go.Proofs.Ytkaahabgbngodaa.Pure
open Go.RowKit Go.Proofs.Ytkaahabgbngodaa.Core Go.Proofs.YtkaahabgbngodaaW.PrintWords Go.Proofs.YtkaahabgbngodaaW.PrintLast Go.IntWalk
set_option linter.unusedSimpArgs false
set_option linter.unusedVariables false

theorem keyAt_iff (key : ByteArray) (x : S120) : keyAt key x = true ↔ x.f0 = key := by
  unfold keyAt; rw [beq_iff_eq]; exact toList_eq
theorem ixOf_none {xs : List S120} {key : ByteArray} (h : key ∉ xs.map (·.f0)) : ixOf xs key = -1 := by
  have : xs.findIdx? (keyAt key) = none := by
    rw [List.findIdx?_eq_none_iff]
    intro x hx
    rw [Bool.eq_false_iff]
    intro he
    exact h (List.mem_map.mpr ⟨x, hx, (keyAt_iff _ _).mp he⟩)
  unfold ixOf; rw [this]
theorem ixOf_some {xs : List S120} {key : ByteArray} (h : key ∈ xs.map (·.f0)) : ∃ (i : Nat) (hi : i < xs.length), ixOf xs key = (i : Int) ∧ xs[i].f0 = key := by
  cases e : xs.findIdx? (keyAt key) with
  | none =>
    rw [List.findIdx?_eq_none_iff] at e
    obtain ⟨x, hx, hk⟩ := List.mem_map.mp h
    exact absurd ((keyAt_iff key x).mpr hk) (by rw [e x hx]; simp)
  | some i =>
    have e2 := e
    rw [List.findIdx?_eq_some_iff_getElem] at e
    obtain ⟨hi, hp, _⟩ := e
    refine ⟨i, hi, ?_, (keyAt_iff _ _).mp hp⟩
    unfold ixOf
    rw [e2]
theorem ixOf_at {xs : List S120} (h : (xs.map (·.f0)).Nodup) (i : Nat) (hi : i < xs.length) : ixOf xs xs[i].f0 = (i : Int) := by
  obtain ⟨j, hj, e, hk⟩ := ixOf_some (xs := xs) (key := xs[i].f0) (List.mem_map.mpr ⟨_, List.getElem_mem hi, rfl⟩)
  rw [e]
  have : j = i := by
    have h1 : (xs.map (·.f0))[j]'(by simpa using hj) = (xs.map (·.f0))[i]'(by simpa using hi) := by simpa using hk
    exact (List.getElem_inj h).mp h1
  rw [this]
theorem rdT (xs : List S120) (i : Nat) (hi : i < xs.length) : rd_T120 xs (i : Int) = xs[i] := by simp [rd_T120, hi]
theorem rdT' (xs : List S120) (i : Nat) (hi : i < xs.length) : rd_T120 xs (((i : Int).toNat : Nat) : Int) = xs[i] := by simpa using rdT xs i hi
/-- An item that is right, its freq at most m. -/
def ItemGood (m : Int) (x : S120) : Prop := KeyOk x.f0 ∧ ValOk x.f1 ∧ 0 ≤ x.f2 ∧ x.f2 ≤ m
def top (kd : Int) : Int := if kd = 3 then 1 else 0
structure RowGood (kd cp : Int) (xs : List S120) : Prop where
  kd1 : 1 ≤ kd
  kd3 : kd ≤ 3
  cp1 : 1 ≤ cp
  cp60 : cp ≤ 60
  len : (xs.length : Int) ≤ cp
  nod : (xs.map (·.f0)).Nodup
  items : ∀ x ∈ xs, ItemGood (top kd) x
theorem top_le (kd : Int) : 0 ≤ top kd ∧ top kd ≤ 1 := by unfold top; split <;> omega
theorem areItems_ok (xs : List S120) (hl : xs.length ≤ 1000) (hn : (xs.map (·.f0)).Nodup) (hk : ∀ x ∈ xs, ItemGood 3 x) : Ev (fun k => impl_areItems.f k xs) true := by
  have key : ∀ (n i : Nat), i + n = xs.length → Ev (fun k => impl_areItems.l0 k xs xs (xs.length : Int) (i : Int)) true := by
    intro n
    induction n with
    | zero =>
      intro i hi
      refine Ev.succ ?_
      simp only [impl_areItems.l0, if_neg (show ¬ (i : Int) < (xs.length : Int) by omega)]
      exact Ev.some
    | succ n ih =>
      intro i hi
      have hlt : i < xs.length := by omega
      have hg := hk _ (List.getElem_mem hlt)
      refine Ev.succ ?_
      simp only [impl_areItems.l0, if_pos (show (i : Int) < (xs.length : Int) by omega), if_pos (show 0 ≤ (i : Int) by omega), rdT xs i hlt]
      refine Ev.bind (item_ok _ _ _ hg.1 hg.2.1 hg.2.2.1 hg.2.2.2) ?_
      simp only [if_true, impl_itemAt.f, Option.bind_some, ixOf_at hn i hlt, up i (by omega)]
      exact ih (i + 1) (by omega)
  exact key xs.length 0 (by omega)
theorem rowok_ok {kd cp : Int} {xs : List S120} (h : RowGood kd cp xs) : Ev (fun k => impl_RowOk.f k kd cp xs) true := by
  have hl : xs.length ≤ 60 := by have := h.len; have := h.cp60; omega
  have key : ∀ (n i : Nat), i + n = xs.length → Ev (fun k => impl_RowOk.l0 k (top kd) xs (xs.length : Int) (i : Int) kd cp xs) true := by
    intro n
    induction n with
    | zero =>
      intro i hi
      refine Ev.succ ?_
      simp only [impl_RowOk.l0, if_neg (show ¬ (i : Int) < (xs.length : Int) by omega), within_ok kd 1 3 h.kd1 h.kd3, within_ok cp 1 60 h.cp1 h.cp60, Option.bind_some, if_true, if_pos h.len]
      refine Ev.bind (areItems_ok xs (by omega) h.nod (fun x hx => ?_)) Ev.some
      have := h.items x hx
      exact ⟨this.1, this.2.1, this.2.2.1, by have := this.2.2.2; have := (top_le kd).2; omega⟩
    | succ n ih =>
      intro i hi
      have hlt : i < xs.length := by omega
      have hg := h.items _ (List.getElem_mem hlt)
      refine Ev.succ ?_
      simp only [impl_RowOk.l0, if_pos (show (i : Int) < (xs.length : Int) by omega), if_pos (show 0 ≤ (i : Int) by omega), rdT xs i hlt, within_ok _ 0 (top kd) hg.2.2.1 hg.2.2.2, Option.bind_some, if_true, up i (by omega)]
      exact ih (i + 1) (by omega)
  have k2 := key xs.length 0 (by omega)
  unfold impl_RowOk.f
  by_cases c : kd = 3
  · simp only [if_pos c]
    refine Ev.succ ?_
    simp only [impl_RowOk.j0]
    rw [top, if_pos c] at k2
    exact k2
  · simp only [if_neg c]
    refine Ev.succ ?_
    simp only [impl_RowOk.j0]
    rw [top, if_neg c] at k2
    exact k2
theorem rownew_ok {kd cp : Int} (h1 : 1 ≤ kd) (h3 : kd ≤ 3) (c1 : 1 ≤ cp) (c60 : cp ≤ 60) : Ev (fun k => impl_RowNew.f k kd cp) (kd, cp, [], true) ∧ RowGood kd cp [] := by
  have g : RowGood kd cp [] := ⟨h1, h3, c1, c60, by simp; omega, by simp, by simp⟩
  refine ⟨?_, g⟩
  unfold impl_RowNew.f
  refine Ev.bind (rowok_ok g) ?_
  simp only [if_true]
  exact Ev.some
/-- The turned row. -/
theorem spin_ok (m : Int) (hm : m ≤ 1) : ∀ (t u : List S120) (n : Nat), t.length < n → t ++ u ≠ [] → (∀ x ∈ t, ItemGood m x) → (∀ x ∈ u, ItemGood m x ∧ x.f2 = 0) →
    ∃ q, spin n (t ++ u) = some q ∧ q ≠ [] ∧ (q.map (·.f0)).Perm ((t ++ u).map (·.f0)) ∧ ∀ x ∈ q, ItemGood m x := by
  intro t
  induction t with
  | nil =>
    intro u n hn hne ht hu
    cases n with
    | zero => exact absurd hn (by simp)
    | succ n =>
      cases u with
      | nil => exact absurd rfl hne
      | cons y u =>
        refine ⟨y :: u, ?_, by simp, List.Perm.refl _, fun x hx => (hu x hx).1⟩
        show spin (n + 1) (y :: u) = _
        rw [spin, if_neg (by rw [(hu y (by simp)).2]; decide)]
  | cons y t ih =>
    intro u n hn hne ht hu
    cases n with
    | zero => exact absurd hn (by simp)
    | succ n =>
      have hy := ht y (by simp)
      by_cases c : y.f2 = 1
      · obtain ⟨q, e, h1, h2, h3⟩ := ih (u ++ [⟨y.f0, y.f1, 0⟩]) n (by simp at hn; omega) (by simp) (fun x hx => ht x (by simp [hx])) (by
          intro x hx
          rcases List.mem_append.mp hx with hx | hx
          · exact hu x hx
          · rw [List.mem_singleton.mp hx]
            exact ⟨⟨hy.1, hy.2.1, by simp, by have := hy.2.2.1; have := hy.2.2.2; simp; omega⟩, rfl⟩)
        refine ⟨q, ?_, h1, ?_, h3⟩
        · show spin (n + 1) (y :: (t ++ u)) = _
          rw [spin, if_pos c, ← e, List.append_assoc]
        · refine h2.trans ?_
          simp only [List.map_append, List.map_cons, List.map_nil, List.cons_append]
          rw [← List.append_assoc]
          exact List.perm_append_singleton _ _
      · refine ⟨y :: (t ++ u), ?_, by simp, List.Perm.refl _, ?_⟩
        · show spin (n + 1) (y :: (t ++ u)) = _
          rw [spin, if_neg c]
        · intro x hx
          rcases List.mem_cons.mp hx with rfl | hx
          · exact hy
          · rcases List.mem_append.mp hx with hx | hx
            · exact ht x (by simp [hx])
            · exact (hu x hx).1
theorem spin_zero {y : S120} (hy : y.f2 ≠ 1) (n : Nat) (xs : List S120) : spin (n + 1) (y :: xs) = some (y :: xs) := by rw [spin, if_neg hy]
def spinM (xs : List S120) : List S120 := (spin (xs.length + 1) xs).getD []
def NEW (key : ByteArray) : S120 := ⟨key, ⟨#[]⟩, 0⟩
/-- An asking. -/
def askM (kd cp : Int) (xs : List S120) (key : ByteArray) : List S120 × Bool × Int :=
  if ixOf xs key < 0 then (if (xs.length : Int) = cp then ((spinM xs).tail ++ [NEW key], false, 1) else (xs ++ [NEW key], false, 0)) else (askedRow kd xs (ixOf xs key).toNat, true, 0)
theorem spinM_ok {m : Int} (hm : m ≤ 1) {xs : List S120} (h0 : xs ≠ []) (h : ∀ x ∈ xs, ItemGood m x) : spin (xs.length + 1) xs = some (spinM xs) ∧ spinM xs ≠ [] ∧ ((spinM xs).map (·.f0)).Perm (xs.map (·.f0)) ∧ ∀ x ∈ spinM xs, ItemGood m x := by
  obtain ⟨q, e, h1, h2, h3⟩ := spin_ok m hm xs [] (xs.length + 1) (by omega) (by simpa using h0) h (by simp)
  rw [List.append_nil] at e h2
  have : spinM xs = q := by unfold spinM; rw [e]; rfl
  rw [this]
  exact ⟨e, h1, h2, h3⟩
theorem erase_perm {α : Type} (xs : List α) (i : Nat) (hi : i < xs.length) : (xs[i] :: xs.eraseIdx i).Perm xs := by
  rw [List.eraseIdx_eq_take_drop_succ]
  refine List.perm_middle.symm.trans ?_
  rw [← List.drop_eq_getElem_cons hi, List.take_append_drop]
theorem asked_good {kd cp : Int} {xs : List S120} (h : RowGood kd cp xs) (i : Nat) (hi : i < xs.length) : RowGood kd cp (askedRow kd xs i) ∧ ((askedRow kd xs i).map (·.f0)).Perm (xs.map (·.f0)) := by
  unfold askedRow
  by_cases c2 : kd = 2
  · rw [if_pos c2, rdT xs i hi]
    have hp : (xs.eraseIdx i ++ [xs[i]]).Perm xs := (List.perm_append_singleton _ _).trans (erase_perm xs i hi)
    have hp2 := hp.map (·.f0)
    exact ⟨⟨h.kd1, h.kd3, h.cp1, h.cp60, by rw [hp.length_eq]; exact h.len, hp2.nodup_iff.mpr h.nod, fun x hx => h.items x (hp.mem_iff.mp hx)⟩, hp2⟩
  · rw [if_neg c2]
    by_cases c3 : kd = 3
    · rw [if_pos c3, rdT xs i hi]
      have hm : (xs.set i ⟨xs[i].f0, xs[i].f1, 1⟩).map (·.f0) = xs.map (·.f0) := by
        rw [List.map_set]
        have : xs[i].f0 = (xs.map (·.f0))[i]'(by simpa using hi) := by simp
        show (xs.map (·.f0)).set i xs[i].f0 = _
        rw [this, List.set_getElem_self]
      refine ⟨⟨h.kd1, h.kd3, h.cp1, h.cp60, by simpa using h.len, by rw [hm]; exact h.nod, fun x hx => ?_⟩, by rw [hm]⟩
      rcases List.mem_or_eq_of_mem_set hx with hx | rfl
      · exact h.items x hx
      · have := h.items _ (List.getElem_mem hi)
        exact ⟨this.1, this.2.1, by simp, by simp [top, c3]⟩
    · rw [if_neg c3]; exact ⟨h, List.Perm.refl _⟩
theorem ask_good {kd cp : Int} {xs : List S120} {key : ByteArray} (h : RowGood kd cp xs) (hk : KeyOk key) : RowGood kd cp (askM kd cp xs key).1 := by
  unfold askM
  by_cases c : key ∈ xs.map (·.f0)
  · obtain ⟨i, hi, e, _⟩ := ixOf_some c
    rw [if_neg (by omega), e]
    exact (asked_good h i hi).1
  · have e := ixOf_none c
    rw [if_pos (by omega)]
    have new : ItemGood (top kd) (NEW key) := ⟨hk, val_empty, by simp [NEW], by have := (top_le kd).1; simp [NEW]; omega⟩
    by_cases cf : (xs.length : Int) = cp
    · rw [if_pos cf]
      have hne : xs ≠ [] := by rintro rfl; have := h.cp1; simp at cf; omega
      obtain ⟨_, h1, h2, h3⟩ := spinM_ok (top_le kd).2 hne h.items
      have hsub : ((spinM xs).tail).Sublist (spinM xs) := List.tail_sublist _
      have hl := h2.length_eq
      simp at hl
      refine ⟨h.kd1, h.kd3, h.cp1, h.cp60, ?_, ?_, ?_⟩
      · simp
        have : 0 < (spinM xs).length := List.length_pos_iff.mpr h1
        omega
      · simp only [List.map_append, List.map_cons, List.map_nil]
        rw [List.nodup_append]
        refine ⟨(h2.nodup_iff.mpr h.nod).sublist (hsub.map _), by simp, ?_⟩
        intro a ha b hb
        rw [List.mem_singleton.mp hb]
        rintro rfl
        exact c (h2.mem_iff.mp ((hsub.map _).subset ha))
      · intro x hx
        rcases List.mem_append.mp hx with hx | hx
        · exact h3 x (hsub.subset hx)
        · rw [List.mem_singleton.mp hx]; exact new
    · rw [if_neg cf]
      refine ⟨h.kd1, h.kd3, h.cp1, h.cp60, by have := h.len; simp; omega, ?_, ?_⟩
      · simp only [List.map_append, List.map_cons, List.map_nil]
        rw [List.nodup_append]
        refine ⟨h.nod, by simp, ?_⟩
        intro a ha b hb
        rw [List.mem_singleton.mp hb]
        rintro rfl
        exact c ha
      · intro x hx
        rcases List.mem_append.mp hx with hx | hx
        · exact h.items x hx
        · rw [List.mem_singleton.mp hx]; exact new
theorem ask_ok {kd cp : Int} {xs : List S120} {key : ByteArray} (h : RowGood kd cp xs) (hk : KeyOk key) : Ev (fun k => askRow k kd cp xs key) (kd, cp, (askM kd cp xs key).1, (askM kd cp xs key).2.1, (askM kd cp xs key).2.2) := by
  have hl : xs.length < 1000000 := by have := h.len; have := h.cp60; omega
  unfold askRow askM
  by_cases c : key ∈ xs.map (·.f0)
  · obtain ⟨i, hi, e, _⟩ := ixOf_some c
    have hneg : ¬ ixOf xs key < 0 := by omega
    simp only [if_neg hneg]
    refine Ev.bind (a := (kd, cp, askedRow kd xs (ixOf xs key).toNat, (rd_T120 xs (ixOf xs key)).f1, true)) ?_ ?_
    · unfold impl_RowGet.f
      simp only [if_pos hl]
      refine Ev.bind (rowok_ok h) ?_
      simp only [if_true, if_neg hneg]
      exact Ev.some
    · simp only [if_true]
      exact Ev.some
  · have e := ixOf_none c
    have hneg : ixOf xs key < 0 := by omega
    simp only [if_pos hneg]
    refine Ev.bind (a := (kd, cp, xs, (⟨#[]⟩ : ByteArray), false)) ?_ ?_
    · unfold impl_RowGet.f
      simp only [if_pos hl]
      refine Ev.bind (rowok_ok h) ?_
      simp only [if_true, if_pos hneg]
      exact Ev.some
    · simp only [Bool.false_eq_true, if_false]
      by_cases cf : (xs.length : Int) = cp
      · simp only [if_pos cf]
        have hne : xs ≠ [] := by rintro rfl; have := h.cp1; simp at cf; omega
        obtain ⟨h0, h1, h2, h3⟩ := spinM_ok (top_le kd).2 hne h.items
        refine Ev.bind (a := (kd, cp, (spinM xs).tail ++ [NEW key], [(rd_T120 (spinM xs) 0).f0], true)) ?_ ?_
        · unfold impl_RowPut.f
          simp only [if_pos hl]
          refine Ev.bind (rowok_ok h) ?_
          simp only [if_true]
          refine Ev.bind (item_ok key _ 0 hk val_empty (by omega) (by omega)) ?_
          simp only [if_true, if_pos hneg, if_pos cf, h0, Option.bind_some]
          exact Ev.some
        · exact Ev.some
      · simp only [if_neg cf]
        refine Ev.bind (a := (kd, cp, xs ++ [NEW key], [], true)) ?_ ?_
        · unfold impl_RowPut.f
          simp only [if_pos hl]
          refine Ev.bind (rowok_ok h) ?_
          simp only [if_true]
          refine Ev.bind (item_ok key _ 0 hk val_empty (by omega) (by omega)) ?_
          simp only [if_true, if_pos hneg, if_neg cf]
          exact Ev.some
        · exact Ev.some
end Go.Proofs.Ytkaahabgbngodaa.Pure

namespace Go.Proofs.Ytkaahabgbngodaa.Pure
open Go.RowKit Go.Proofs.Ytkaahabgbngodaa.Core Go.Proofs.YtkaahabgbngodaaW.PrintWords Go.Proofs.YtkaahabgbngodaaW.PrintLast Go.IntWalk
set_option linter.unusedSimpArgs false
set_option linter.unusedVariables false

theorem gone_01 (kd cp : Int) (xs : List S120) (key : ByteArray) : 0 ≤ (askM kd cp xs key).2.2 ∧ (askM kd cp xs key).2.2 ≤ 1 := by
  unfold askM; split <;> (try split) <;> simp
/-- All askings, one after the other. -/
def runM (kd cp : Int) : List S120 → List ByteArray → List S120 × List Bool × Int
  | xs, [] => (xs, [], 0)
  | xs, x :: l => ((runM kd cp (askM kd cp xs x).1 l).1, (askM kd cp xs x).2.1 :: (runM kd cp (askM kd cp xs x).1 l).2.1, (askM kd cp xs x).2.2 + (runM kd cp (askM kd cp xs x).1 l).2.2)
theorem run_good {kd cp : Int} : ∀ (l : List ByteArray) (xs : List S120), RowGood kd cp xs → (∀ x ∈ l, KeyOk x) → RowGood kd cp (runM kd cp xs l).1
  | [], _, h, _ => h
  | x :: l, xs, h, hk => run_good l _ (ask_good h (hk x (by simp))) (fun y hy => hk y (by simp [hy]))
theorem run_length {kd cp : Int} : ∀ (l : List ByteArray) (xs : List S120), (runM kd cp xs l).2.1.length = l.length
  | [], _ => rfl
  | x :: l, xs => by simp [runM, run_length l]
theorem run_gone {kd cp : Int} : ∀ (l : List ByteArray) (xs : List S120), 0 ≤ (runM kd cp xs l).2.2 ∧ (runM kd cp xs l).2.2 ≤ l.length
  | [], _ => by simp [runM]
  | x :: l, xs => by
    have := run_gone l (askM kd cp xs x).1 (kd := kd) (cp := cp)
    have := gone_01 kd cp xs x
    simp [runM]; omega
theorem askGo_ok {kd cp : Int} (l : List ByteArray) (hl : l.length ≤ 1000) (hk : ∀ x ∈ l, KeyOk x) : ∀ (s pre : List ByteArray) (xs : List S120) (hs : List Bool) (gn : Int), l = pre ++ s → RowGood kd cp xs → hs.length = pre.length → 0 ≤ gn → gn ≤ pre.length →
    ∃ k0, ∀ k, k0 ≤ k → ∀ n, s.length < n → askGo k l n (pre.length : Int) kd cp xs hs gn = some (kd, cp, (runM kd cp xs s).1, hs ++ (runM kd cp xs s).2.1, gn + (runM kd cp xs s).2.2) := by
  intro s
  induction s with
  | nil =>
    intro pre xs hs gn h hg hh h0 h1
    refine ⟨0, fun k _ n hn => ?_⟩
    cases n with
    | zero => exact absurd hn (by simp)
    | succ n =>
      rw [askGo, if_neg (show ¬ (pre.length : Int) < (l.length : Int) by rw [h]; simp)]
      simp [runM]
  | cons x s ih =>
    intro pre xs hs gn h hg hh h0 h1
    have hx : rdOf ByteArray.empty l (pre.length : Int) = x := by rw [h]; exact rdOf_mid _ _ _ _
    have hlt : (pre.length : Int) < (l.length : Int) := by rw [h]; simp; omega
    have hkx : KeyOk x := hk x (by rw [h]; simp)
    have h01 := gone_01 kd cp xs x
    obtain ⟨k1, e1⟩ := ask_ok hg hkx
    have hw : wrap64 (gn + (askM kd cp xs x).2.2) = gn + (askM kd cp xs x).2.2 := wrap64_in _ (by omega)
    obtain ⟨k2, e2⟩ := ih (pre ++ [x]) (askM kd cp xs x).1 (hs ++ [(askM kd cp xs x).2.1]) (gn + (askM kd cp xs x).2.2) (by rw [h]; simp) (ask_good hg hkx) (by simp [hh]) (by omega) (by simp; omega)
    refine ⟨k1 + k2, fun k hk' n hn => ?_⟩
    cases n with
    | zero => exact absurd hn (by simp)
    | succ n =>
      have e3 : askRow k kd cp xs x = _ := e1 k (by omega)
      rw [askGo, if_pos hlt, if_pos (by omega), hx, e3]
      show (if hs.length < 140737488355328 then askGo k l n (wrap64 ((pre.length : Int) + 1)) kd cp (askM kd cp xs x).1 (hs ++ [(askM kd cp xs x).2.1]) (wrap64 (gn + (askM kd cp xs x).2.2)) else none) = _
      rw [if_pos (by omega), up' pre x (by omega), hw, e2 k (by omega) n (by simp at hn; omega)]
      simp [runM, Int.add_assoc]
theorem go_ok {kd cp : Int} (l : List ByteArray) (hl : l.length ≤ 1000) (hk : ∀ x ∈ l, KeyOk x) (hg : RowGood kd cp []) : Ev (fun k => askGo k l k 0 kd cp [] [] 0) (kd, cp, (runM kd cp [] l).1, (runM kd cp [] l).2.1, (runM kd cp [] l).2.2) := by
  obtain ⟨k0, h⟩ := askGo_ok (kd := kd) (cp := cp) l hl hk l [] [] [] 0 (by simp) hg rfl (by omega) (by simp)
  refine ⟨k0 + l.length + 1, fun k hk' => ?_⟩
  have := h k (by omega) k (by omega)
  simpa using this
theorem keys_ok {kd cp : Int} {xs : List S120} (h : RowGood kd cp xs) : Ev (fun k => impl_RowKeys.f k kd cp xs) (xs.map (·.f0)) := by
  have hl : xs.length ≤ 60 := by have := h.len; have := h.cp60; omega
  have key : ∀ (n i : Nat) (acc : List ByteArray), i + n = xs.length → acc.length = i → Ev (fun k => impl_RowKeys.l0 k acc xs (xs.length : Int) (i : Int)) (acc ++ (xs.drop i).map (·.f0)) := by
    intro n
    induction n with
    | zero =>
      intro i acc hi ha
      refine Ev.succ ?_
      simp only [impl_RowKeys.l0, if_neg (show ¬ (i : Int) < (xs.length : Int) by omega)]
      refine Ev.eq Ev.some ?_
      rw [List.drop_eq_nil_of_le (by omega)]; simp
    | succ n ih =>
      intro i acc hi ha
      have hlt : i < xs.length := by omega
      refine Ev.succ ?_
      simp only [impl_RowKeys.l0, if_pos (show (i : Int) < (xs.length : Int) by omega), if_pos (show 0 ≤ (i : Int) by omega), rdT xs i hlt, if_pos (show acc.length < 8796093022208 by omega), up i (by omega)]
      refine Ev.eq (ih (i + 1) (acc ++ [xs[i].f0]) (by omega) (by simp [ha])) ?_
      rw [List.drop_eq_getElem_cons hlt, List.map_cons, List.append_assoc, List.singleton_append]
  unfold impl_RowKeys.f
  simp only [Option.bind_some]
  refine Ev.bind (rowok_ok h) ?_
  simp only [if_true]
  refine Ev.eq (key xs.length 0 [] (by omega) rfl) ?_
  simp
theorem setup_ok {kd cp : Int} (h1 : 1 ≤ kd) (h3 : kd ≤ 3) (c1 : 1 ≤ cp) (c60 : cp ≤ 60) : Ev (fun k => impl_SetupOk.f k kd cp 0) true := by
  unfold impl_SetupOk.f
  simp only [if_neg (show ¬ kd = 4 by omega)]
  refine Ev.bind (rownew_ok h1 h3 c1 c60).1 ?_
  exact Ev.eq Ev.some (by simp)
theorem set_ok {kd cp : Int} (l : List ByteArray) (h1 : 1 ≤ kd) (h3 : kd ≤ 3) (c1 : 1 ≤ cp) (c60 : cp ≤ 60) (hl : l.length ≤ 300) (hk : ∀ x ∈ l, KeyOk x) :
    Ev (fun k => askSet k kd cp 0 l) (some (kd, cp, (runM kd cp [] l).1, (runM kd cp [] l).2.1, (runM kd cp [] l).2.2)) := by
  unfold askSet
  refine Ev.bind (setup_ok h1 h3 c1 c60) ?_
  simp only [if_true]
  refine Ev.bind (asksok_ok l hl hk) ?_
  simp only [if_true]
  refine Ev.bind (rownew_ok h1 h3 c1 c60).1 ?_
  dsimp only
  refine Ev.bind (go_ok l (by omega) hk (rownew_ok h1 h3 c1 c60).2) ?_
  exact Ev.some
theorem holds_ok {kd cp : Int} (l : List ByteArray) (h1 : 1 ≤ kd) (h3 : kd ≤ 3) (c1 : 1 ≤ cp) (c60 : cp ≤ 60) (hl : l.length ≤ 300) (hk : ∀ x ∈ l, KeyOk x) :
    Ev (fun k => impl_Holds.f k kd cp 0 l) ((runM kd cp [] l).1.map (·.f0)) := by
  unfold impl_Holds.f
  refine Ev.bind (set_ok l h1 h3 c1 c60 hl hk) ?_
  dsimp only
  exact keys_ok (run_good l [] (rownew_ok h1 h3 c1 c60).2 hk)
theorem hits_ok {kd cp : Int} (l : List ByteArray) (h1 : 1 ≤ kd) (h3 : kd ≤ 3) (c1 : 1 ≤ cp) (c60 : cp ≤ 60) (hl : l.length ≤ 300) (hk : ∀ x ∈ l, KeyOk x) :
    Ev (fun k => impl_HitsOf.f k kd cp 0 l) (runM kd cp [] l).2.1 := by
  unfold impl_HitsOf.f
  refine Ev.bind (set_ok l h1 h3 c1 c60 hl hk) ?_
  dsimp only
  exact Ev.some
theorem hitsIn_ok (hs : List Bool) (hl : hs.length ≤ 1000) : Ev (fun k => impl_hitsIn.f k hs) (hs.count true : Int) := by
  have key : ∀ (s pre : List Bool) (c : Nat), hs = pre ++ s → c ≤ pre.length → Ev (fun k => impl_hitsIn.l0 k (c : Int) hs (hs.length : Int) (pre.length : Int)) ((c + s.count true : Nat) : Int) := by
    intro s
    induction s with
    | nil =>
      intro pre c h hc
      refine Ev.succ ?_
      simp only [impl_hitsIn.l0, if_neg (show ¬ (pre.length : Int) < (hs.length : Int) by rw [h]; simp)]
      exact Ev.eq Ev.some (by simp)
    | cons x s ih =>
      intro pre c h hc
      have hx : rdOf false hs (pre.length : Int) = x := by rw [h]; exact rdOf_mid _ _ _ _
      have hlt : (pre.length : Int) < (hs.length : Int) := by rw [h]; simp; omega
      refine Ev.succ ?_
      simp only [impl_hitsIn.l0, if_pos hlt, if_pos (show 0 ≤ (pre.length : Int) by omega), hx]
      cases x with
      | true =>
        simp only [if_true, up' pre true (by omega), up c (by omega)]
        refine Ev.eq (ih (pre ++ [true]) (c + 1) (by rw [h]; simp) (by simp; omega)) ?_
        simp; omega
      | false =>
        simp only [Bool.false_eq_true, if_false, up' pre false (by omega)]
        refine Ev.eq (ih (pre ++ [false]) c (by rw [h]; simp) (by simp; omega)) ?_
        simp
  unfold impl_hitsIn.f
  refine Ev.eq (key hs [] 0 (by simp) (by simp)) ?_
  simp
theorem count_ok {kd cp : Int} (l : List ByteArray) (h1 : 1 ≤ kd) (h3 : kd ≤ 3) (c1 : 1 ≤ cp) (c60 : cp ≤ 60) (hl : l.length ≤ 300) (hk : ∀ x ∈ l, KeyOk x) :
    Ev (fun k => impl_CountOf.f k kd cp 0 l) ((l.length : Int), ((runM kd cp [] l).2.1.count true : Int), (l.length : Int) - ((runM kd cp [] l).2.1.count true : Int), (runM kd cp [] l).2.2) := by
  unfold impl_CountOf.f
  refine Ev.bind (set_ok l h1 h3 c1 c60 hl hk) ?_
  dsimp only
  have hlen : (runM kd cp [] l).2.1.length = l.length := run_length l []
  refine Ev.bind (hitsIn_ok _ (by omega)) ?_
  refine Ev.eq Ev.some ?_
  have hc : (runM kd cp [] l).2.1.count true ≤ (runM kd cp [] l).2.1.length := List.count_le_length
  rw [wrap64_in _ (by omega)]
theorem put_more {kd cp : Int} {xs : List S120} {key v : ByteArray} (h : RowGood kd cp xs) (hk : KeyOk key) (hv : ValOk v) (c : key ∉ xs.map (·.f0)) (cf : (xs.length : Int) ≠ cp) : Ev (fun k => impl_RowPut.f k kd cp xs key v) (kd, cp, xs ++ [⟨key, v, 0⟩], [], true) := by
  unfold impl_RowPut.f
  simp only [if_pos (show xs.length < 1000000 by have := h.len; have := h.cp60; omega)]
  refine Ev.bind (rowok_ok h) ?_
  simp only [if_true]
  refine Ev.bind (item_ok key v 0 hk hv (by omega) (by omega)) ?_
  simp only [if_true, if_pos (show ixOf xs key < 0 by rw [ixOf_none c]; omega), if_neg cf]
  exact Ev.some
theorem put_full {kd cp : Int} {xs : List S120} {key v : ByteArray} (h : RowGood kd cp xs) (hk : KeyOk key) (hv : ValOk v) (c : key ∉ xs.map (·.f0)) (cf : (xs.length : Int) = cp) : Ev (fun k => impl_RowPut.f k kd cp xs key v) (kd, cp, (spinM xs).tail ++ [⟨key, v, 0⟩], [(rd_T120 (spinM xs) 0).f0], true) := by
  have hne : xs ≠ [] := by rintro rfl; have := h.cp1; simp at cf; omega
  obtain ⟨h0, h1, h2, h3⟩ := spinM_ok (top_le kd).2 hne h.items
  unfold impl_RowPut.f
  simp only [if_pos (show xs.length < 1000000 by have := h.len; have := h.cp60; omega)]
  refine Ev.bind (rowok_ok h) ?_
  simp only [if_true]
  refine Ev.bind (item_ok key v 0 hk hv (by omega) (by omega)) ?_
  simp only [if_true, if_pos (show ixOf xs key < 0 by rw [ixOf_none c]; omega), if_pos cf, h0, Option.bind_some]
  exact Ev.some
theorem get_hit {kd cp : Int} {xs : List S120} {key : ByteArray} (h : RowGood kd cp xs) (i : Nat) (hi : i < xs.length) (e : xs[i].f0 = key) : Ev (fun k => impl_RowGet.f k kd cp xs key) (kd, cp, askedRow kd xs i, xs[i].f1, true) := by
  have ei : ixOf xs key = (i : Int) := by rw [← e]; exact ixOf_at h.nod i hi
  unfold impl_RowGet.f
  simp only [if_pos (show xs.length < 1000000 by have := h.len; have := h.cp60; omega)]
  refine Ev.bind (rowok_ok h) ?_
  simp only [if_true, ei, if_neg (show ¬ (i : Int) < 0 by omega), rdT xs i hi, Int.toNat_natCast]
  exact Ev.some
end Go.Proofs.Ytkaahabgbngodaa.Pure

namespace Go.Proofs.Ytkaahabgbngodaa.Pure
open Go.RowKit Go.Proofs.Ytkaahabgbngodaa.Core Go.Proofs.YtkaahabgbngodaaW.PrintWords Go.Proofs.YtkaahabgbngodaaW.PrintLast Go.IntWalk
set_option linter.unusedSimpArgs false
set_option linter.unusedVariables false
set_option linter.unusedSectionVars false

section keys
variable {α : Type} [DecidableEq α]
/-- The kinds 1 and 2 as lists of keys. -/
def stepA (lru : Bool) (cp : Nat) (xs : List α) (x : α) : List α × Bool × Nat :=
  if x ∈ xs then (if lru = true then xs.erase x ++ [x] else xs, true, 0) else if xs.length = cp then (xs.tail ++ [x], false, 1) else (xs ++ [x], false, 0)
def runA (lru : Bool) (cp : Nat) : List α → List α → List α × List Bool × Nat
  | xs, [] => (xs, [], 0)
  | xs, x :: l => ((runA lru cp (stepA lru cp xs x).1 l).1, (stepA lru cp xs x).2.1 :: (runA lru cp (stepA lru cp xs x).1 l).2.1, (stepA lru cp xs x).2.2 + (runA lru cp (stepA lru cp xs x).1 l).2.2)
/-- How far the next asking is; the length where there is none. -/
def pos : List α → α → Nat
  | [], _ => 0
  | y :: s, x => if y = x then 0 else pos s x + 1
def farGo (rest : List α) : List α → Nat → Int → Int → Int
  | [], _, b, _ => b
  | y :: s, i, b, f => if (pos rest y : Int) > f then farGo rest s (i + 1) i (pos rest y) else farGo rest s (i + 1) b f
def farIdx (has rest : List α) : Nat := (farGo rest has 0 (-1) (-1)).toNat
def bestA (cp : Nat) : List α → List α → List Bool
  | _, [] => []
  | has, x :: rest => if x ∈ has then true :: bestA cp has rest else if has.length = cp then false :: bestA cp (has.eraseIdx (farIdx has rest) ++ [x]) rest else false :: bestA cp (has ++ [x]) rest
end keys
theorem eidx_map {α β : Type} (f : α → β) (l : List α) (i : Nat) : (l.map f).eraseIdx i = (l.eraseIdx i).map f := by
  rw [List.eraseIdx_eq_take_drop_succ, List.eraseIdx_eq_take_drop_succ, List.map_append, List.map_take, List.map_drop]
section maps
variable {α β : Type} [DecidableEq α] [DecidableEq β] (f : α → β) (hf : ∀ x y, f x = f y → x = y)
include hf
theorem mem_map_inj (x : α) (l : List α) : f x ∈ l.map f ↔ x ∈ l := by
  constructor
  · intro h; obtain ⟨y, hy, e⟩ := List.mem_map.mp h; rw [← hf _ _ e]; exact hy
  · exact fun h => List.mem_map.mpr ⟨x, h, rfl⟩
theorem erase_map (x : α) (l : List α) : (l.map f).erase (f x) = (l.erase x).map f := by
  induction l with
  | nil => rfl
  | cons y l ih =>
    rw [List.map_cons, List.erase_cons, List.erase_cons]
    by_cases c : y = x
    · simp [c]
    · have : ¬ f y = f x := fun e => c (hf _ _ e)
      simp [c, this, ih]
theorem stepA_map (lru : Bool) (cp : Nat) (xs : List α) (x : α) : stepA lru cp (xs.map f) (f x) = ((stepA lru cp xs x).1.map f, (stepA lru cp xs x).2) := by
  unfold stepA
  by_cases c : x ∈ xs
  · rw [if_pos c, if_pos ((mem_map_inj f hf x xs).mpr c), erase_map f hf]
    cases lru <;> simp
  · rw [if_neg c, if_neg (fun h => c ((mem_map_inj f hf x xs).mp h)), List.length_map]
    split <;> simp
theorem runA_map (lru : Bool) (cp : Nat) : ∀ (l xs : List α), runA lru cp (xs.map f) (l.map f) = ((runA lru cp xs l).1.map f, (runA lru cp xs l).2)
  | [], xs => rfl
  | x :: l, xs => by
    rw [List.map_cons, runA, runA, stepA_map f hf]
    simp only [runA_map lru cp l]
theorem pos_map (l : List α) (x : α) : pos (l.map f) (f x) = pos l x := by
  induction l with
  | nil => rfl
  | cons y l ih =>
    rw [List.map_cons, pos, pos, ih]
    by_cases c : y = x
    · simp [c]
    · have : ¬ f y = f x := fun e => c (hf _ _ e)
      simp [c, this]
theorem farGo_map (rest : List α) : ∀ (l : List α) (i : Nat) (b g : Int), farGo (rest.map f) (l.map f) i b g = farGo rest l i b g
  | [], _, _, _ => rfl
  | y :: l, i, b, g => by
    rw [List.map_cons, farGo, farGo, pos_map f hf, farGo_map rest l, farGo_map rest l]
theorem bestA_map (cp : Nat) : ∀ (l has : List α), bestA cp (has.map f) (l.map f) = bestA cp has l
  | [], _ => rfl
  | x :: l, has => by
    rw [List.map_cons, bestA, bestA, List.length_map, farIdx, farGo_map f hf]
    have e1 : (has.map f).eraseIdx (farGo l has 0 (-1) (-1)).toNat ++ [f x] = (has.eraseIdx (farIdx has l) ++ [x]).map f := by rw [eidx_map, List.map_append]; rfl
    have e2 : has.map f ++ [f x] = (has ++ [x]).map f := by simp
    rw [e1, e2, bestA_map cp l, bestA_map cp l, bestA_map cp l]
    by_cases c : x ∈ has
    · rw [if_pos c, if_pos ((mem_map_inj f hf x has).mpr c)]
    · rw [if_neg c, if_neg (fun h => c ((mem_map_inj f hf x has).mp h))]
end maps
theorem erase_idx {α : Type} [DecidableEq α] (l : List α) (hn : l.Nodup) (i : Nat) (hi : i < l.length) : l.erase l[i] = l.eraseIdx i := by
  induction l generalizing i with
  | nil => simp at hi
  | cons y l ih =>
    cases i with
    | zero => simp
    | succ i =>
      rw [List.nodup_cons] at hn
      have hi' : i < l.length := by simpa using hi
      have hne : ¬ y = l[i] := fun e => hn.1 (by rw [e]; exact List.getElem_mem hi')
      rw [List.getElem_cons_succ, List.erase_cons, List.eraseIdx_cons_succ, ← ih hn.2 i hi']
      simp [hne]
theorem spin_same {xs : List S120} (h : ∀ x ∈ xs, x.f2 ≠ 1) (h0 : xs ≠ []) : spinM xs = xs := by
  cases xs with
  | nil => exact absurd rfl h0
  | cons y xs => unfold spinM; rw [spin_zero (h y (by simp))]; rfl
/-- A row of the kinds 1 and 2 goes as its keys go. -/
theorem ask_A {kd cp : Int} {xs : List S120} {key : ByteArray} (h : RowGood kd cp xs) (h3 : kd ≠ 3) :
    (askM kd cp xs key).1.map (·.f0) = (stepA (decide (kd = 2)) cp.toNat (xs.map (·.f0)) key).1 ∧ (askM kd cp xs key).2.1 = (stepA (decide (kd = 2)) cp.toNat (xs.map (·.f0)) key).2.1 ∧ (askM kd cp xs key).2.2 = ((stepA (decide (kd = 2)) cp.toNat (xs.map (·.f0)) key).2.2 : Int) := by
  have hz : ∀ x ∈ xs, x.f2 ≠ 1 := fun x hx => by have := (h.items x hx).2.2.2; rw [top, if_neg h3] at this; omega
  have hcp := h.cp1
  unfold askM stepA
  by_cases c : key ∈ xs.map (·.f0)
  · obtain ⟨i, hi, e, hk⟩ := ixOf_some c
    rw [if_neg (by omega), if_pos c, e]
    refine ⟨?_, rfl, rfl⟩
    unfold askedRow
    by_cases c2 : kd = 2
    · rw [if_pos c2]
      simp only [c2, decide_true, if_true, Int.toNat_natCast]
      rw [rdT xs i hi]
      have hi' : i < (xs.map (·.f0)).length := by simpa using hi
      have hk' : (xs.map (·.f0))[i] = key := by simpa using hk
      rw [← hk', erase_idx _ h.nod i hi', List.map_append, eidx_map]
      simp
    · rw [if_neg c2, if_neg h3]
      simp [c2]
  · have e := ixOf_none c
    rw [if_pos (by omega), if_neg c, List.length_map]
    by_cases cf : (xs.length : Int) = cp
    · have hne : xs ≠ [] := by rintro rfl; simp at cf; omega
      rw [if_pos cf, if_pos (by omega), spin_same hz hne]
      refine ⟨?_, rfl, rfl⟩
      simp [NEW, List.map_tail]
    · rw [if_neg cf, if_neg (by omega)]
      refine ⟨?_, rfl, rfl⟩
      simp [NEW]
theorem run_A {kd cp : Int} (h3 : kd ≠ 3) : ∀ (l : List ByteArray) (xs : List S120), RowGood kd cp xs → (∀ x ∈ l, KeyOk x) →
    (runM kd cp xs l).1.map (·.f0) = (runA (decide (kd = 2)) cp.toNat (xs.map (·.f0)) l).1 ∧ (runM kd cp xs l).2.1 = (runA (decide (kd = 2)) cp.toNat (xs.map (·.f0)) l).2.1 ∧ (runM kd cp xs l).2.2 = ((runA (decide (kd = 2)) cp.toNat (xs.map (·.f0)) l).2.2 : Int)
  | [], xs, _, _ => ⟨rfl, rfl, rfl⟩
  | x :: l, xs, h, hk => by
    obtain ⟨e1, e2, e3⟩ := ask_A (key := x) h h3
    obtain ⟨f1, f2, f3⟩ := run_A h3 l (askM kd cp xs x).1 (ask_good h (hk x (by simp))) (fun y hy => hk y (by simp [hy]))
    rw [e1] at f1 f2 f3
    refine ⟨f1, ?_, ?_⟩
    · rw [runM, runA]; simp only [e2, f2]
    · rw [runM, runA]; simp only [e3, f3]; omega
/-- The next asking. -/
theorem next_ok (l : List ByteArray) (key : ByteArray) (hl : l.length ≤ 1000) : ∀ (s pre : List ByteArray), l = pre ++ s → Ev (fun k => impl_NextAsk.l0 k l key (pre.length : Int)) ((pre.length + pos s key : Nat) : Int) := by
  intro s
  induction s with
  | nil =>
    intro pre h
    refine Ev.succ ?_
    simp only [impl_NextAsk.l0, if_neg (show ¬ (pre.length : Int) < (l.length : Int) by rw [h]; simp)]
    refine Ev.eq Ev.some ?_
    rw [h]; simp [pos]
  | cons x s ih =>
    intro pre h
    have hx : rdOf ByteArray.empty l (pre.length : Int) = x := by rw [h]; exact rdOf_mid _ _ _ _
    have hlt : (pre.length : Int) < (l.length : Int) := by rw [h]; simp; omega
    refine Ev.succ ?_
    simp only [impl_NextAsk.l0, if_pos hlt, if_pos (show 0 ≤ (pre.length : Int) by omega), hx]
    rw [pos]
    by_cases c : x = key
    · simp only [if_pos c, if_pos (congrArg ByteArray.toList c)]
      exact Ev.eq Ev.some (by simp)
    · simp only [if_neg c, if_neg (fun he => c (bt_inj he)), up' pre x (by omega)]
      refine Ev.eq (ih (pre ++ [x]) (by rw [h]; simp)) ?_
      simp; omega
theorem nextask_ok (l : List ByteArray) (key : ByteArray) (hl : l.length ≤ 1000) (pre s : List ByteArray) (h : l = pre ++ s) : Ev (fun k => impl_NextAsk.f k l key (pre.length : Int)) ((pre.length + pos s key : Nat) : Int) := by
  unfold impl_NextAsk.f
  have : mx 0 (pre.length : Int) = (pre.length : Int) := by unfold mx; split <;> omega
  rw [this]
  exact next_ok l key hl s pre h
theorem farGo_in {α : Type} [DecidableEq α] (rest : List α) : ∀ (s : List α) (i : Nat) (b f : Int), farGo rest s i b f = b ∨ ((i : Int) ≤ farGo rest s i b f ∧ farGo rest s i b f < i + s.length)
  | [], _, _, _ => .inl rfl
  | y :: s, i, b, f => by
    rw [farGo]
    split
    · rcases farGo_in rest s (i + 1) i (pos rest y) with h | h
      · right; rw [h]; simp; omega
      · right; simp; omega
    · rcases farGo_in rest s (i + 1) b f with h | h
      · exact .inl h
      · right; simp; omega
theorem far_in {α : Type} [DecidableEq α] (has rest : List α) (h : has ≠ []) : 0 ≤ farGo rest has 0 (-1) (-1) ∧ farGo rest has 0 (-1) (-1) < has.length := by
  cases has with
  | nil => exact absurd rfl h
  | cons y s =>
    rw [farGo, if_pos (by omega)]
    rcases farGo_in rest s 1 0 (pos rest y) with h | h
    · simp at h ⊢; omega
    · simp at h ⊢; omega
theorem bestgo_loop (l : List ByteArray) (hl : l.length ≤ 1000) (pre rest : List ByteArray) (h : l = pre ++ rest) (has : List ByteArray) (hh : has.length ≤ 1000) : ∀ (s q : List ByteArray) (b f : Int), has = q ++ s → -1 ≤ f →
    Ev (fun k => impl_BestGo.l0 k l (pre.length : Int) b (if f = -1 then -1 else pre.length + f) has (has.length : Int) (q.length : Int)) (farGo rest s q.length b f) := by
  intro s
  induction s with
  | nil =>
    intro q b f hq hf
    refine Ev.succ ?_
    simp only [impl_BestGo.l0, if_neg (show ¬ (q.length : Int) < (has.length : Int) by rw [hq]; simp)]
    exact Ev.some
  | cons x s ih =>
    intro q b f hq hf
    have hx : rdOf ByteArray.empty has (q.length : Int) = x := by rw [hq]; exact rdOf_mid _ _ _ _
    have hlt : (q.length : Int) < (has.length : Int) := by rw [hq]; simp; omega
    refine Ev.succ ?_
    simp only [impl_BestGo.l0, if_pos hlt, if_pos (show 0 ≤ (q.length : Int) by omega), hx]
    refine Ev.bind (nextask_ok l x hl pre rest h) ?_
    rw [farGo]
    have hiff : (((pre.length + pos rest x : Nat) : Int) > (if f = -1 then -1 else (pre.length : Int) + f)) ↔ (pos rest x : Int) > f := by
      split
      · rename_i e; rw [e]; omega
      · omega
    by_cases c : (pos rest x : Int) > f
    · simp only [if_pos c, if_pos (hiff.mpr c), up' q x (by omega)]
      have := ih (q ++ [x]) q.length (pos rest x) (by rw [hq]; simp) (by omega)
      rw [if_neg (show ¬ ((pos rest x : Int) = -1) by omega)] at this
      simp only [List.length_append, List.length_cons, List.length_nil] at this ⊢
      refine Ev.cong this (fun k => ?_)
      congr 1
    · simp only [if_neg c, if_neg (fun he => c (hiff.mp he)), up' q x (by omega)]
      have := ih (q ++ [x]) b f (by rw [hq]; simp) hf
      simp only [List.length_append, List.length_cons, List.length_nil] at this ⊢
      exact this
theorem bestgo_ok (l : List ByteArray) (hl : l.length ≤ 1000) (pre rest : List ByteArray) (h : l = pre ++ rest) (has : List ByteArray) (hh : has.length ≤ 1000) (hne : has ≠ []) : Ev (fun k => impl_BestGo.f k l has (pre.length : Int)) ((farIdx has rest : Nat) : Int) := by
  unfold impl_BestGo.f
  have := bestgo_loop l hl pre rest h has hh has [] (-1) (-1) (by simp) (by omega)
  rw [if_pos rfl] at this
  refine Ev.eq this ?_
  have h2 := far_in has rest hne
  unfold farIdx
  simp at h2 ⊢
  omega
theorem best_loop (l : List ByteArray) (hl : l.length ≤ 300) (cp : Int) (c1 : 1 ≤ cp) (c60 : cp ≤ 60) : ∀ (s pre has : List ByteArray) (hs : List Bool), l = pre ++ s → (has.length : Int) ≤ cp → hs.length = pre.length →
    Ev (fun k => impl_BestHits.l0 k l cp hs has l (l.length : Int) (pre.length : Int)) (hs ++ bestA cp.toNat has s) := by
  intro s
  induction s with
  | nil =>
    intro pre has hs h hh hhs
    refine Ev.succ ?_
    simp only [impl_BestHits.l0, if_neg (show ¬ (pre.length : Int) < (l.length : Int) by rw [h]; simp)]
    exact Ev.eq Ev.some (by simp [bestA])
  | cons x s ih =>
    intro pre has hs h hh hhs
    have hx : rdOf ByteArray.empty l (pre.length : Int) = x := by rw [h]; exact rdOf_mid _ _ _ _
    have hlt : (pre.length : Int) < (l.length : Int) := by rw [h]; simp; omega
    refine Ev.succ ?_
    simp only [impl_BestHits.l0, if_pos hlt, if_pos (show 0 ≤ (pre.length : Int) by omega), hx]
    refine Ev.bind (contains_ok has x (by omega)) ?_
    simp only [if_pos (show hs.length < 140737488355328 by omega), Option.bind_some, up' pre x (by omega)]
    rw [bestA]
    by_cases c : x ∈ has
    · simp only [c, decide_true, if_true]
      refine Ev.eq (ih (pre ++ [x]) has (hs ++ [true]) (by rw [h]; simp) hh (by simp [hhs])) (by simp)
    · simp only [c, decide_false, if_false, Bool.false_eq_true]
      by_cases cf : (has.length : Int) = cp
      · have hne : has ≠ [] := by rintro rfl; simp at cf; omega
        have hfar := far_in has s hne
        simp only [if_pos cf, if_pos (show has.length = cp.toNat by omega)]
        refine Ev.bind (bestgo_ok l (by omega) (pre ++ [x]) s (by rw [h]; simp) has (by omega) hne) ?_
        have hfi : farIdx has s < has.length := by unfold farIdx; omega
        have hdel : slices_Delete_string_string.f has ((farIdx has s : Nat) : Int) (wrap64 (((farIdx has s : Nat) : Int) + 1)) = some (has.eraseIdx (farIdx has s)) := by
          unfold slices_Delete_string_string.f
          rw [up _ (by omega), if_pos ⟨by omega, by omega, by omega⟩, Int.toNat_natCast]
        have hle : (has.eraseIdx (farIdx has s)).length + 1 = has.length := by rw [List.length_eraseIdx_of_lt hfi]; omega
        simp only [hdel, Option.bind_some, if_pos (show (has.eraseIdx (farIdx has s)).length < 8796093022208 by omega)]
        refine Ev.eq (ih (pre ++ [x]) (has.eraseIdx (farIdx has s) ++ [x]) (hs ++ [false]) (by rw [h]; simp) (by simp; omega) (by simp [hhs])) (by simp)
      · simp only [if_neg cf, if_neg (show ¬ has.length = cp.toNat by omega), if_pos (show has.length < 8796093022208 by omega)]
        refine Ev.eq (ih (pre ++ [x]) (has ++ [x]) (hs ++ [false]) (by rw [h]; simp) (by simp; omega) (by simp [hhs])) (by simp)
theorem besthits_ok (l : List ByteArray) (hl : l.length ≤ 300) (hk : ∀ x ∈ l, KeyOk x) (cp : Int) (c1 : 1 ≤ cp) (c60 : cp ≤ 60) : Ev (fun k => impl_BestHits.f k l cp) (bestA cp.toNat [] l) := by
  unfold impl_BestHits.f
  refine Ev.bind (asksok_ok l hl hk) ?_
  simp only [if_true, within_ok cp 1 60 c1 c60, Option.bind_some, Bool.not_true]
  refine Ev.succ ?_
  simp only [impl_BestHits.j0, Bool.false_eq_true, if_false]
  refine Ev.eq (best_loop l hl cp c1 c60 l [] [] [] (by simp) (by simp; omega) rfl) (by simp)
theorem bestA_length {α : Type} [DecidableEq α] (cp : Nat) : ∀ (l has : List α), (bestA cp has l).length = l.length
  | [], _ => rfl
  | x :: l, has => by
    rw [bestA]
    split
    · simp [bestA_length cp l]
    · split <;> simp [bestA_length cp l]
theorem bestmisses_ok (l : List ByteArray) (hl : l.length ≤ 300) (hk : ∀ x ∈ l, KeyOk x) (cp : Int) (c1 : 1 ≤ cp) (c60 : cp ≤ 60) : Ev (fun k => impl_BestMisses.f k l cp) ((l.length : Int) - ((bestA cp.toNat [] l).count true : Int)) := by
  unfold impl_BestMisses.f
  refine Ev.bind (besthits_ok l hl hk cp c1 c60) ?_
  have hlen := bestA_length cp.toNat l ([] : List ByteArray)
  refine Ev.bind (hitsIn_ok _ (by omega)) ?_
  refine Ev.eq Ev.some ?_
  have hc : (bestA cp.toNat [] l).count true ≤ (bestA cp.toNat [] l).length := List.count_le_length
  rw [wrap64_in _ (by omega), hlen]
end Go.Proofs.Ytkaahabgbngodaa.Pure

namespace Go.Proofs.Ytkaahabgbngodaa.Pure
open Go.RowKit Go.Proofs.Ytkaahabgbngodaa.Core Go.Proofs.YtkaahabgbngodaaW.PrintWords Go.Proofs.YtkaahabgbngodaaW.PrintLast Go.IntWalk
set_option linter.unusedSimpArgs false
set_option linter.unusedVariables false
set_option linter.unusedSectionVars false

section lru
variable {α : Type} [DecidableEq α]
/-- An asking in the list by last askings, the oldest first. -/
def recA (R : List α) (x : α) : List α := R.erase x ++ [x]
def recL (R : List α) (l : List α) : List α := l.foldl recA R
def lastN (n : Nat) (R : List α) : List α := R.drop (R.length - n)
theorem recA_nodup {R : List α} (h : R.Nodup) (x : α) : (recA R x).Nodup := by
  unfold recA
  rw [List.nodup_append]
  refine ⟨h.erase x, by simp, ?_⟩
  intro a ha b hb
  rw [List.mem_singleton.mp hb]
  rintro rfl
  exact (h.mem_erase_iff.mp ha).1 rfl
theorem recA_mem {R : List α} (h : R.Nodup) (x y : α) : y ∈ recA R x ↔ y = x ∨ y ∈ R := by
  unfold recA
  rw [List.mem_append, h.mem_erase_iff, List.mem_singleton]
  constructor
  · rintro (h1 | h1)
    · exact .inr h1.2
    · exact .inl h1
  · rintro (h1 | h1)
    · exact .inr h1
    · by_cases c : y = x
      · exact .inr c
      · exact .inl ⟨c, h1⟩
theorem recL_nodup : ∀ (l R : List α), R.Nodup → (recL R l).Nodup
  | [], _, h => h
  | x :: l, R, h => recL_nodup l (recA R x) (recA_nodup h x)
theorem recL_mem : ∀ (l R : List α) (y : α), R.Nodup → (y ∈ recL R l ↔ y ∈ R ∨ y ∈ l)
  | [], R, y, h => by simp [recL]
  | x :: l, R, y, h => by
    show y ∈ recL (recA R x) l ↔ _
    rw [recL_mem l (recA R x) y (recA_nodup h x), recA_mem h]
    simp only [List.mem_cons]
    constructor
    · rintro ((h1 | h1) | h1)
      · exact .inr (.inl h1)
      · exact .inl h1
      · exact .inr (.inr h1)
    · rintro (h1 | h1 | h1)
      · exact .inl (.inr h1)
      · exact .inl (.inl h1)
      · exact .inr h1
theorem erase_mid {A B : List α} {x : α} (h : x ∉ A) : (A ++ x :: B).erase x = A ++ B := by
  induction A with
  | nil => simp
  | cons y A ih =>
    have h1 : ¬ y = x := fun e => h (by simp [e])
    rw [List.cons_append, List.erase_cons]
    simp only [List.cons_append]
    rw [if_neg (by simpa using h1), ih (fun hm => h (by simp [hm]))]
theorem lastN_mid {A B : List α} {x : α} {n : Nat} (h : B.length < n) : lastN n (A ++ x :: B) = A.drop (A.length + 1 + B.length - n) ++ x :: B := by
  unfold lastN
  rw [List.drop_append_of_le_length (by simp; omega)]
  congr 1
  simp; congr 1; omega
theorem lastN_far {A B : List α} {x : α} {n : Nat} (h : n ≤ B.length) : lastN n (A ++ x :: B) = B.drop (B.length - n) := by
  unfold lastN
  have : (A ++ x :: B).length - n = (A ++ [x]).length + (B.length - n) := by simp; omega
  rw [this]
  have e : A ++ x :: B = (A ++ [x]) ++ B := by simp
  rw [e, List.drop_append]
  simp
theorem stepA_lru {n : Nat} (hn : 1 ≤ n) {R : List α} (h : R.Nodup) (x : α) : (stepA true n (lastN n R) x).1 = lastN n (recA R x) ∧ (stepA true n (lastN n R) x).2.1 = decide (x ∈ lastN n R) := by
  unfold stepA recA
  by_cases hx : x ∈ R
  · obtain ⟨A, B, rfl⟩ := List.append_of_mem hx
    have hd := List.nodup_append.mp h
    have hA : x ∉ A := fun hm => hd.2.2 x hm x (by simp) rfl
    have hB : x ∉ B := (List.nodup_cons.mp hd.2.1).1
    rw [erase_mid hA]
    by_cases c : B.length < n
    · rw [lastN_mid c]
      have hA' : x ∉ A.drop (A.length + 1 + B.length - n) := fun hm => hA (List.mem_of_mem_drop hm)
      rw [if_pos (by simp)]
      refine ⟨?_, by simp⟩
      simp only [if_true]
      rw [erase_mid hA']
      unfold lastN
      rw [List.append_assoc, List.append_assoc, List.drop_append_of_le_length (by simp; omega)]
      congr 1
      simp; congr 1; omega
    · rw [lastN_far (by omega)]
      have hB' : x ∉ B.drop (B.length - n) := fun hm => hB (List.mem_of_mem_drop hm)
      rw [if_neg hB', if_pos (by simp; omega)]
      refine ⟨?_, by simp [hB']⟩
      show (B.drop (B.length - n)).tail ++ [x] = _
      unfold lastN
      rw [List.tail_drop]
      have e : (A ++ B ++ [x]).length - n = A.length + (B.length - n + 1) := by simp; omega
      rw [e, List.append_assoc, List.drop_append]
      rw [List.drop_eq_nil_of_le (show A.length ≤ A.length + (B.length - n + 1) by omega), List.nil_append, Nat.add_sub_cancel_left, List.drop_append_of_le_length (by omega)]
  · have hx' : x ∉ lastN n R := fun hm => hx (List.mem_of_mem_drop hm)
    rw [if_neg hx', List.erase_of_not_mem hx]
    by_cases c : R.length < n
    · have e : lastN n R = R := by unfold lastN; rw [show R.length - n = 0 by omega]; rfl
      rw [if_neg (by rw [e]; omega)]
      refine ⟨?_, by simp [hx']⟩
      rw [e]
      unfold lastN
      rw [show (R ++ [x]).length - n = 0 by simp; omega]; rfl
    · rw [if_pos (by unfold lastN; simp; omega)]
      refine ⟨?_, by simp [hx']⟩
      unfold lastN
      show (R.drop (R.length - n)).tail ++ [x] = _
      rw [List.tail_drop, List.drop_append_of_le_length (by simp; omega)]
      congr 2
      simp; omega
theorem runA_lru {n : Nat} (hn : 1 ≤ n) : ∀ (l R : List α), R.Nodup → (runA true n (lastN n R) l).1 = lastN n (recL R l)
  | [], R, _ => rfl
  | x :: l, R, h => by
    rw [runA]
    show (runA true n (stepA true n (lastN n R) x).1 l).1 = _
    rw [(stepA_lru hn h x).1, runA_lru hn l _ (recA_nodup h x)]
    rfl
/-- How deep an asking lies: r are the askings before it, the last first; q those that were passed. -/
def depthR (x : α) (ddl : List α → Nat) : List α → List α → Int
  | [], _ => -1
  | y :: r, q => if y = x then (ddl q : Int) else depthR x ddl r (y :: q)
theorem depth_ways (x : α) (ddl : List α → Nat) : ∀ (r q : List α), x ∉ q → (x ∉ r ∧ depthR x ddl r q = -1) ∨ ∃ p1 p2, r.reverse ++ q = p1 ++ x :: p2 ∧ x ∉ p2 ∧ depthR x ddl r q = (ddl p2 : Int)
  | [], q, h => .inl ⟨by simp, rfl⟩
  | y :: r, q, h => by
    rw [depthR]
    by_cases c : y = x
    · rw [if_pos c]
      exact .inr ⟨r.reverse, q, by simp [c], h, rfl⟩
    · rw [if_neg c]
      rcases depth_ways x ddl r (y :: q) (by simp [h]; exact fun e => c e.symm) with ⟨h1, h2⟩ | ⟨p1, p2, h1, h2, h3⟩
      · exact .inl ⟨by simp [h1]; exact fun e => c e.symm, h2⟩
      · exact .inr ⟨p1, p2, by rw [← h1]; simp, h2, h3⟩
theorem recL_append (R l q : List α) : recL R (l ++ q) = recL (recL R l) q := by unfold recL; rw [List.foldl_append]
/-- Behind the last asking of x stand just the keys that were asked since. -/
theorem recL_mid (R p1 : List α) (hR : R.Nodup) (x : α) : ∀ (p2 : List α), x ∉ p2 → ∃ A B, recL R (p1 ++ x :: p2) = A ++ x :: B ∧ ∀ y, y ∈ B ↔ y ∈ p2 := by
  have key : ∀ (p2 A B : List α), x ∉ p2 → (A ++ x :: B).Nodup → ∃ A' B', recL (A ++ x :: B) p2 = A' ++ x :: B' ∧ ∀ y, y ∈ B' ↔ y ∈ B ∨ y ∈ p2 := by
    intro p2
    induction p2 with
    | nil => intro A B _ _; exact ⟨A, B, rfl, by simp⟩
    | cons z p2 ih =>
      intro A B hx hn
      have hzx : ¬ x = z := fun e => hx (by simp [e])
      have step : ∃ A1 B1, recA (A ++ x :: B) z = A1 ++ x :: B1 ∧ ∀ y, y ∈ B1 ↔ y = z ∨ y ∈ B := by
        have hd := List.nodup_append.mp hn
        have hBn := (List.nodup_cons.mp hd.2.1).2
        unfold recA
        by_cases hA : z ∈ A
        · refine ⟨A.erase z, B ++ [z], ?_, by intro y; simp; exact or_comm⟩
          rw [List.erase_append_left _ hA]; simp
        · refine ⟨A, B.erase z ++ [z], ?_, ?_⟩
          · rw [List.erase_append_right _ hA, List.erase_cons, if_neg (by simpa using hzx)]; simp
          · intro y
            have := recA_mem hBn z y
            unfold recA at this
            exact this
      obtain ⟨A1, B1, e, hm⟩ := step
      obtain ⟨A2, B2, e2, hm2⟩ := ih A1 B1 (fun h => hx (by simp [h])) (by rw [← e]; exact recA_nodup hn z)
      refine ⟨A2, B2, ?_, ?_⟩
      · show recL (recA (A ++ x :: B) z) p2 = _
        rw [e, e2]
      · intro y
        rw [hm2, hm]
        simp only [List.mem_cons]
        constructor
        · rintro ((h | h) | h)
          · exact .inr (.inl h)
          · exact .inl h
          · exact .inr (.inr h)
        · rintro (h | h | h)
          · exact .inl (.inr h)
          · exact .inl (.inl h)
          · exact .inr h
  intro p2 hx
  have hn1 := recL_nodup p1 R hR
  have e : recL R (p1 ++ x :: p2) = recL ((recL R p1).erase x ++ x :: []) p2 := by rw [recL_append]; rfl
  obtain ⟨A, B, e2, hm⟩ := key p2 ((recL R p1).erase x) [] hx (recA_nodup hn1 x)
  exact ⟨A, B, by rw [e, e2], by simpa using hm⟩
theorem same_length {a b : List α} (ha : a.Nodup) (hb : b.Nodup) (h : ∀ y, y ∈ a ↔ y ∈ b) : a.length = b.length := ((List.perm_ext_iff_of_nodup ha hb).mpr h).length_eq
/-- An asking is found just where it lies less deep than the cache is great. -/
theorem hit_depth {n : Nat} (ddl : List α → Nat) (hdd : ∀ (q b : List α), b.Nodup → (∀ y, y ∈ b ↔ y ∈ q) → ddl q = b.length) (p : List α) (x : α) : x ∈ lastN n (recL [] p) ↔ ¬ (depthR x ddl p.reverse [] < 0 ∨ depthR x ddl p.reverse [] ≥ (n : Int)) := by
  rcases depth_ways x ddl p.reverse [] (by simp) with ⟨h1, h2⟩ | ⟨p1, p2, h1, h2, h3⟩
  · rw [h2]
    constructor
    · intro h
      have : x ∈ recL [] p := List.mem_of_mem_drop h
      rw [recL_mem p [] x (by simp)] at this
      exact absurd (by simpa using this) h1
    · intro h; exact absurd (.inl (by omega)) h
  · rw [h3]
    simp only [List.reverse_reverse, List.append_nil] at h1
    obtain ⟨A, B, e, hm⟩ := recL_mid [] p1 (by simp) x p2 h2
    have hn := recL_nodup p ([] : List α) (by simp)
    rw [h1] at hn ⊢
    rw [e] at hn ⊢
    have hd := List.nodup_append.mp hn
    have hB := List.nodup_cons.mp hd.2.1
    rw [hdd p2 B hB.2 hm]
    by_cases c : B.length < n
    · rw [lastN_mid c]
      simp; omega
    · rw [lastN_far (by omega)]
      constructor
      · intro h; exact absurd (List.mem_of_mem_drop h) hB.1
      · intro h; exact absurd (.inr (by omega)) h
/-- The depths of all askings, p before them. -/
def depthsA (ddl : List α → Nat) : List α → List α → List Int
  | _, [] => []
  | p, x :: l => depthR x ddl p.reverse [] :: depthsA ddl (p ++ [x]) l
theorem hits_depths {n : Nat} (hn : 1 ≤ n) (ddl : List α → Nat) (hdd : ∀ (q b : List α), b.Nodup → (∀ y, y ∈ b ↔ y ∈ q) → ddl q = b.length) : ∀ (l p : List α), (runA true n (lastN n (recL [] p)) l).2.1 = (depthsA ddl p l).map (fun d => decide (¬ (d < 0 ∨ d ≥ (n : Int))))
  | [], p => rfl
  | x :: l, p => by
    have hp := recL_nodup p ([] : List α) (by simp)
    rw [runA, depthsA, List.map_cons]
    show (stepA true n (lastN n (recL [] p)) x).2.1 :: (runA true n (stepA true n (lastN n (recL [] p)) x).1 l).2.1 = _
    rw [(stepA_lru hn hp x).1, (stepA_lru hn hp x).2]
    have e : recA (recL [] p) x = recL [] (p ++ [x]) := by rw [recL_append]; rfl
    rw [e, hits_depths hn ddl hdd l (p ++ [x])]
    congr 1
    exact decide_eq_decide.mpr (hit_depth ddl hdd p x)
end lru
end Go.Proofs.Ytkaahabgbngodaa.Pure

namespace Go.Proofs.Ytkaahabgbngodaa.Pure
open Go.RowKit Go.Proofs.Ytkaahabgbngodaa.Core Go.Proofs.YtkaahabgbngodaaW.PrintWords Go.Proofs.YtkaahabgbngodaaW.PrintLast Go.IntWalk
set_option linter.unusedSimpArgs false
set_option linter.unusedVariables false

def ddn (q : List ByteArray) : Nat := (dd [] q).length
theorem ddn_ok (q b : List ByteArray) (hb : b.Nodup) (h : ∀ y, y ∈ b ↔ y ∈ q) : ddn q = b.length :=
  same_length (dd_nodup q [] (by simp)) hb (fun y => by rw [dd_mem, h]; simp)
theorem depth_inner (l p s acc : List ByteArray) (x : ByteArray) (ac : List Int) (hl : l.length ≤ 1000) (hp : l = p ++ x :: s) (hac : ac.length ≤ 1000) (res : List Int) : ∀ (r q : List ByteArray), p = r.reverse ++ q →
    Ev (fun k => impl_DepthsOf.l0 k l (ac ++ [depthR x ddn r q]) l (l.length : Int) (((p ++ [x]).length : Nat) : Int)) res →
    Ev (fun k => impl_DepthsOf.l1 k l ac (p.length : Int) x (-1) ((r.length : Int) - 1) l (l.length : Int) (p.length : Int)) res := by
  intro r
  have hpl : p.length + 1 + s.length = l.length := by rw [hp]; simp; omega
  induction r with
  | nil =>
    intro q hq h
    refine Ev.succ ?_
    simp only [impl_DepthsOf.l1, List.length_nil, if_neg (show ¬ (((0 : Nat) : Int) - 1) ≥ 0 by omega), if_pos (show ac.length < 17592186044416 by omega), up' p x (by omega)]
    exact h
  | cons y r ih =>
    intro q hq h
    have hpr : p.length = r.length + 1 + q.length := by rw [hq]; simp; omega
    have hy : rdOf ByteArray.empty l (r.length : Int) = y := by
      have e : l = r.reverse ++ y :: (q ++ x :: s) := by rw [hp, hq]; simp
      have := rdOf_mid ByteArray.empty r.reverse (q ++ x :: s) y
      rw [← e] at this
      simpa using this
    refine Ev.succ ?_
    have e1 : (((y :: r).length : Nat) : Int) - 1 = (r.length : Int) := by simp
    simp only [impl_DepthsOf.l1, e1, if_pos (show (r.length : Int) ≥ 0 by omega), if_pos (show (0 : Int) ≤ (r.length : Int) by omega), if_pos (show (r.length : Int) < (l.length : Int) by omega), hy]
    rw [depthR] at h
    by_cases c : y = x
    · rw [if_pos c] at h
      have e2 : (l.take ((p.length : Int)).toNat).drop (((r.length + 1 : Nat) : Int)).toNat = q := by
        rw [Int.toNat_natCast, Int.toNat_natCast, hp, List.take_left', hq]
        · rw [List.reverse_cons, List.append_assoc, ← List.append_assoc, List.drop_left' (by simp)]
        · rfl
      simp only [if_pos (congrArg ByteArray.toList c), up r.length (by omega), if_pos (show (0 : Int) ≤ ((r.length + 1 : Nat) : Int) by omega), if_pos (show ((r.length + 1 : Nat) : Int) ≤ (p.length : Int) by omega), if_pos (show (p.length : Int) ≤ (l.length : Int) by omega), e2]
      refine Ev.bind (distinct_ok q (by omega)) ?_
      simp only [if_pos (show ac.length < 17592186044416 by omega), up' p x (by omega)]
      exact h
    · rw [if_neg c] at h
      have w1 : wrap64 ((r.length : Int) - 1) = (r.length : Int) - 1 := wrap64_in _ (by omega)
      simp only [if_neg (fun he => c (bt_inj he)), w1]
      exact ih (y :: q) (by rw [hq]; simp) h
theorem depths_loop (l : List ByteArray) (hl : l.length ≤ 300) : ∀ (s p : List ByteArray) (ac : List Int), l = p ++ s → ac.length = p.length → Ev (fun k => impl_DepthsOf.l0 k l ac l (l.length : Int) (p.length : Int)) (ac ++ depthsA ddn p s) := by
  intro s
  induction s with
  | nil =>
    intro p ac hp ha
    refine Ev.succ ?_
    simp only [impl_DepthsOf.l0, if_neg (show ¬ (p.length : Int) < (l.length : Int) by rw [hp]; simp)]
    exact Ev.eq Ev.some (by simp [depthsA])
  | cons x s ih =>
    intro p ac hp ha
    have hpl : p.length + 1 + s.length = l.length := by rw [hp]; simp; omega
    have hx : rdOf ByteArray.empty l (p.length : Int) = x := by rw [hp]; exact rdOf_mid _ _ _ _
    have w1 : wrap64 ((p.length : Int) - 1) = (p.length : Int) - 1 := wrap64_in _ (by omega)
    refine Ev.succ ?_
    simp only [impl_DepthsOf.l0, if_pos (show (p.length : Int) < (l.length : Int) by omega), if_pos (show (0 : Int) ≤ (p.length : Int) by omega), hx, w1]
    have := depth_inner l p s [] x ac (by omega) hp (by omega) (ac ++ depthsA ddn p (x :: s)) p.reverse [] (by simp) (by
      refine Ev.eq (ih (p ++ [x]) (ac ++ [depthR x ddn p.reverse []]) (by rw [hp]; simp) (by simp [ha])) ?_
      rw [depthsA]; simp)
    simpa using this
theorem depths_ok (l : List ByteArray) (hl : l.length ≤ 300) : Ev (fun k => impl_DepthsOf.f k l) (depthsA ddn [] l) := by
  unfold impl_DepthsOf.f
  exact Ev.eq (depths_loop l hl l [] [] (by simp) rfl) (by simp)
theorem depthsA_length : ∀ (l p : List ByteArray), (depthsA ddn p l).length = l.length
  | [], _ => rfl
  | x :: l, p => by rw [depthsA, List.length_cons, depthsA_length l]; rfl
def deep (n : Int) (d : Int) : Bool := decide (d < 0 ∨ d ≥ n)
theorem misses_ok (ds : List Int) (n : Int) (hl : ds.length ≤ 1000) : Ev (fun k => impl_MissesAt.f k ds n) ((ds.countP (deep n) : Nat) : Int) := by
  have key : ∀ (s pre : List Int) (c : Nat), ds = pre ++ s → c ≤ pre.length → Ev (fun k => impl_MissesAt.l0 k n (c : Int) ds (ds.length : Int) (pre.length : Int)) ((c + s.countP (deep n) : Nat) : Int) := by
    intro s
    induction s with
    | nil =>
      intro pre c h hc
      refine Ev.succ ?_
      simp only [impl_MissesAt.l0, if_neg (show ¬ (pre.length : Int) < (ds.length : Int) by rw [h]; simp)]
      exact Ev.eq Ev.some (by simp)
    | cons x s ih =>
      intro pre c h hc
      have hx : rd ds (pre.length : Int) = x := by rw [h]; simp [rd, List.getD_eq_getElem?_getD]
      have hlt : (pre.length : Int) < (ds.length : Int) := by rw [h]; simp; omega
      refine Ev.succ ?_
      simp only [impl_MissesAt.l0, if_pos hlt, if_pos (show 0 ≤ (pre.length : Int) by omega), hx, up' pre x (by omega), up c (by omega)]
      rw [List.countP_cons]
      have i1 := ih (pre ++ [x]) (c + 1) (by rw [h]; simp) (by simp; omega)
      have i0 := ih (pre ++ [x]) c (by rw [h]; simp) (by simp; omega)
      by_cases c1 : x < 0
      · simp only [if_pos c1]
        refine Ev.eq i1 ?_
        rw [if_pos (show deep n x = true by simp [deep, c1])]; omega
      · simp only [if_neg c1]
        by_cases c2 : x ≥ n
        · simp only [if_pos c2]
          refine Ev.eq i1 ?_
          rw [if_pos (show deep n x = true by simp [deep]; omega)]; omega
        · simp only [if_neg c2]
          refine Ev.eq i0 ?_
          rw [if_neg (show ¬ deep n x = true by simp [deep]; omega)]; omega
  unfold impl_MissesAt.f
  exact Ev.eq (key ds [] 0 (by simp) (by simp)) (by simp)
theorem count_deep (n : Nat) : ∀ ds : List Int, (ds.map (fun d => decide (¬ (d < 0 ∨ d ≥ (n : Int))))).count true + ds.countP (deep n) = ds.length
  | [] => rfl
  | d :: ds => by
    have := count_deep n ds
    rw [List.map_cons, List.count_cons, List.countP_cons, List.length_cons]
    by_cases c : d < 0 ∨ d ≥ (n : Int)
    · rw [if_neg (by simp; intro h; rcases c with c | c <;> omega), if_pos (by simp [deep]; exact c)]; omega
    · rw [if_pos (by simp; omega), if_neg (by simp [deep]; omega)]; omega
theorem hastext_ok (l : List ByteArray) (a : ByteArray) (hl : l.length ≤ 1000) (ha : a ∈ l) : Ev (fun k => laws_hasText.f k l a) true := by
  have key : ∀ (s pre : List ByteArray), l = pre ++ s → a ∈ s → Ev (fun k => laws_hasText.l0 k a l (l.length : Int) (pre.length : Int)) true := by
    intro s
    induction s with
    | nil => intro pre h hm; exact absurd hm (by simp)
    | cons x s ih =>
      intro pre h hm
      have hx : rdOf ByteArray.empty l (pre.length : Int) = x := by rw [h]; exact rdOf_mid _ _ _ _
      have hlt : (pre.length : Int) < (l.length : Int) := by rw [h]; simp; omega
      refine Ev.succ ?_
      simp only [laws_hasText.l0, if_pos hlt, if_pos (show 0 ≤ (pre.length : Int) by omega), hx, up' pre x (by omega)]
      by_cases c : x = a
      · simp only [if_pos (congrArg ByteArray.toList c)]; exact Ev.some
      · simp only [if_neg (fun he => c (bt_inj he))]
        exact ih (pre ++ [x]) (by rw [h]; simp) (by rcases List.mem_cons.mp hm with hm | hm; exact absurd hm.symm c; exact hm)
  exact key l [] (by simp) ha
theorem has_ok (l : List ByteArray) (a : ByteArray) (hl : l.length ≤ 1000) : Ev (fun k => spec_l12Has.f k l a) (decide (a ∈ l)) := by
  have key : ∀ (s pre : List ByteArray), l = pre ++ s → Ev (fun k => spec_l12Has.l0 k a l (l.length : Int) (pre.length : Int)) (decide (a ∈ s)) := by
    intro s
    induction s with
    | nil =>
      intro pre h
      refine Ev.succ ?_
      simp only [spec_l12Has.l0, if_neg (show ¬ (pre.length : Int) < (l.length : Int) by rw [h]; simp)]
      exact Ev.eq Ev.some (by simp)
    | cons x s ih =>
      intro pre h
      have hx : rdOf ByteArray.empty l (pre.length : Int) = x := by rw [h]; exact rdOf_mid _ _ _ _
      have hlt : (pre.length : Int) < (l.length : Int) := by rw [h]; simp; omega
      refine Ev.succ ?_
      simp only [spec_l12Has.l0, if_pos hlt, if_pos (show 0 ≤ (pre.length : Int) by omega), hx, up' pre x (by omega)]
      by_cases c : x = a
      · simp only [if_pos (congrArg ByteArray.toList c)]; exact Ev.eq Ev.some (by simp [c])
      · simp only [if_neg (fun he => c (bt_inj he))]
        refine Ev.eq (ih (pre ++ [x]) (by rw [h]; simp)) ?_
        exact decide_eq_decide.mpr ⟨fun hm => List.mem_cons_of_mem _ hm, fun hm => by rcases List.mem_cons.mp hm with hm | hm; exact absurd hm.symm c; exact hm⟩
  exact key l [] (by simp)
theorem sdistinct_ok (l : List ByteArray) (hl : l.length ≤ 1000) : Ev (fun k => spec_Distinct.f k l) (dd [] l) := by
  have key : ∀ (s pre acc : List ByteArray), l = pre ++ s → acc.length ≤ pre.length → Ev (fun k => spec_Distinct.l0 k acc l (l.length : Int) (pre.length : Int)) (dd acc s) := by
    intro s
    induction s with
    | nil =>
      intro pre acc h ha
      refine Ev.succ ?_
      simp only [spec_Distinct.l0, if_neg (show ¬ (pre.length : Int) < (l.length : Int) by rw [h]; simp)]
      exact Ev.some
    | cons x s ih =>
      intro pre acc h ha
      have hx : rdOf ByteArray.empty l (pre.length : Int) = x := by rw [h]; exact rdOf_mid _ _ _ _
      have h1 : (pre.length : Int) < (l.length : Int) := by rw [h]; simp; omega
      refine Ev.succ ?_
      simp only [spec_Distinct.l0, if_pos h1, if_pos (show 0 ≤ (pre.length : Int) by omega), hx]
      refine Ev.bind (has_ok acc x (by omega)) ?_
      rw [dd]
      by_cases c : x ∈ acc
      · simp only [c, decide_true, if_true, up' pre x (by omega)]
        exact ih (pre ++ [x]) acc (by rw [h]; simp) (by simp; omega)
      · simp only [c, decide_false, if_false, Bool.false_eq_true, up' pre x (by omega), if_pos (show acc.length < 8796093022208 by omega)]
        exact ih (pre ++ [x]) (acc ++ [x]) (by rw [h]; simp) (by simp; omega)
  exact key l [] [] (by simp) (by simp)
theorem lru_last (l big small : List ByteArray) (n : Int) (hl : l.length ≤ 1000) (hb : big.length ≤ 1000) (hs : small.length ≤ 1000) (hsub : ∀ x ∈ small, x ∈ big) (hlen : (small.length : Int) = n) : ∀ (s pre : List ByteArray), small = pre ++ s →
    Ev (fun k => laws_FnLru.l0 k l big small n small (small.length : Int) (pre.length : Int)) true := by
  intro s
  induction s with
  | nil =>
    intro pre h
    refine Ev.succ ?_
    simp only [laws_FnLru.l0, if_neg (show ¬ (pre.length : Int) < (small.length : Int) by rw [h]; simp), if_pos hlen]
    refine Ev.bind (sdistinct_ok l hl) ?_
    refine Ev.bind (distinct_ok l hl) ?_
    exact Ev.eq Ev.some (by simp)
  | cons x s ih =>
    intro pre h
    have hx : rdOf ByteArray.empty small (pre.length : Int) = x := by rw [h]; exact rdOf_mid _ _ _ _
    have hlt : (pre.length : Int) < (small.length : Int) := by rw [h]; simp; omega
    refine Ev.succ ?_
    simp only [laws_FnLru.l0, if_pos hlt, if_pos (show 0 ≤ (pre.length : Int) by omega), hx]
    refine Ev.bind (hastext_ok big x hb (hsub x (by rw [h]; simp))) ?_
    simp only [if_true, up' pre x (by omega)]
    exact ih (pre ++ [x]) (by rw [h]; simp)
theorem FnLru : laws_FnLru.Pure := by
  intro l0 _ _ _
  refine Ev.some' (F := fun k => laws_FnLru.f k l0) ?_
  unfold laws_FnLru.f
  by_cases c : (l0.length : Int) > 1048576
  · simp only [if_pos c]; exact Ev.some
  · simp only [if_neg c]
    obtain ⟨l, el, hl, hk8⟩ := asks_ok l0 24 (by omega) (by omega) (by omega)
    obtain ⟨a, ea, ha0, ha5⟩ := num_ok l0 5 (by omega) (by omega) (by omega)
    obtain ⟨n, hn⟩ : ∃ n : Nat, (n : Int) = 1 + a := ⟨(1 + a).toNat, by omega⟩
    have hk : ∀ x ∈ l, KeyOk x := fun x hx => key8 x (hk8 x hx)
    have hl3 : l.length ≤ 300 := by omega
    have wn : wrap64 (1 + a) = (n : Int) := by rw [wrap64_in _ (by omega)]; omega
    have wn1 : wrap64 ((n : Int) + 1) = ((n + 1 : Nat) : Int) := up n (by omega)
    refine Ev.bind el ?_
    refine Ev.bind ea ?_
    simp only [wn, wn1]
    refine Ev.bind (depths_ok l hl3) ?_
    have hdl := depthsA_length l []
    simp only [if_pos (show ((depthsA ddn [] l).length : Int) = (l.length : Int) by rw [hdl])]
    have lru : ∀ m : Nat, 1 ≤ m → m ≤ 60 → (runM 2 (m : Int) [] l).1.map (·.f0) = lastN m (recL [] l) ∧ (runM 2 (m : Int) [] l).2.1 = (depthsA ddn [] l).map (fun d => decide (¬ (d < 0 ∨ d ≥ (m : Int)))) := by
      intro m h1 h60
      obtain ⟨e1, e2, _⟩ := run_A (kd := 2) (cp := (m : Int)) (by omega) l [] (rownew_ok (by omega) (by omega) (by omega) (by omega)).2 hk
      rw [Int.toNat_natCast, List.map_nil] at e1 e2
      rw [show decide ((2 : Int) = 2) = true from rfl] at e1 e2
      have z : lastN m ([] : List ByteArray) = [] := by simp [lastN]
      have g1 := runA_lru h1 l ([] : List ByteArray) (by simp)
      have g2 := hits_depths h1 ddn ddn_ok l []
      rw [z] at g1
      rw [show recL ([] : List ByteArray) [] = [] from rfl, z] at g2
      exact ⟨e1.trans g1, e2.trans g2⟩
    have hcnt := count_deep n (depthsA ddn [] l)
    have hmiss := misses_ok (depthsA ddn [] l) (n : Int) (by omega)
    have cnt := count_ok (kd := 2) (cp := (n : Int)) l (by omega) (by omega) (by omega) (by omega) hl3 hk
    rw [(lru n (by omega) (by omega)).2] at cnt
    refine Ev.bind cnt ?_
    refine Ev.bind hmiss ?_
    simp only [if_pos (show (l.length : Int) - ((((depthsA ddn [] l).map (fun d => decide (¬ (d < 0 ∨ d ≥ (n : Int))))).count true : Nat) : Int) = (((depthsA ddn [] l).countP (deep n) : Nat) : Int) by omega)]
    refine Ev.bind cnt ?_
    have hne : ((l.length : Int) != (l.length : Int)) = false := by simp
    simp only [hne]
    refine Ev.succ ?_
    simp only [laws_FnLru.j0, Bool.false_eq_true, if_false]
    refine Ev.bind (holds_ok (kd := 2) (cp := ((n + 1 : Nat) : Int)) l (by omega) (by omega) (by omega) (by omega) hl3 hk) ?_
    refine Ev.bind (holds_ok (kd := 2) (cp := (n : Int)) l (by omega) (by omega) (by omega) (by omega) hl3 hk) ?_
    rw [(lru (n + 1) (by omega) (by omega)).1, (lru n (by omega) (by omega)).1]
    refine Ev.bind (distinct_ok l (by omega)) ?_
    have hR := recL_nodup l ([] : List ByteArray) (by simp)
    have hRl : (dd [] l).length = (recL [] l).length := same_length (dd_nodup l [] (by simp)) hR (fun y => by rw [dd_mem, recL_mem l [] y (by simp)])
    have hdl2 := dd_length l []
    simp only [List.length_nil, Nat.zero_add] at hdl2
    have hsub : ∀ x ∈ lastN n (recL [] l), x ∈ lastN (n + 1) (recL [] l) := by
      intro x hx
      unfold lastN at hx ⊢
      have e : (recL [] l).length - n = ((recL [] l).length - (n + 1)) + ((recL [] l).length - n - ((recL [] l).length - (n + 1))) := by omega
      rw [e, ← List.drop_drop] at hx
      exact List.mem_of_mem_drop hx
    have hsl : (lastN n (recL [] l)).length = min n (recL [] l).length := by unfold lastN; rw [List.length_drop]; omega
    have hbl : (lastN (n + 1) (recL [] l)).length ≤ (recL [] l).length := by unfold lastN; rw [List.length_drop]; omega
    by_cases cg : ((dd [] l).length : Int) > (n : Int)
    · simp only [if_pos cg]
      refine Ev.succ ?_
      simp only [laws_FnLru.j1]
      exact lru_last l _ _ (n : Int) (by omega) (by omega) (by omega) hsub (by rw [hsl]; omega) (lastN n (recL [] l)) [] rfl
    · simp only [if_neg cg]
      refine Ev.succ ?_
      simp only [laws_FnLru.j1]
      exact lru_last l _ _ ((dd [] l).length : Int) (by omega) (by omega) (by omega) hsub (by rw [hsl]; omega) (lastN n (recL [] l)) [] rfl
end Go.Proofs.Ytkaahabgbngodaa.Pure
