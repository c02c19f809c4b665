/- Plain laws for FnNone, part 1: what the contracts' functions compute answers as the statement says. -/
import Derived.Test.YtkaahabgbngodaaFnNoneW1
import Derived.Test.YtkaahabgbngodaaFnNoneC1
import Derived.Test.YtkaahabgbngodaaFnNoneC2
import Derived.Test.YtkaahabgbngodaaFnNoneC3
import Derived.Test.YtkaahabgbngodaaFnNoneC4
import Derived.Test.YtkaahabgbngodaaFnNoneC5
import Derived.IntWalk

section
namespace Go.Proofs.Ytkaahabgbngodaa.Pure
open Go.RowKit Go.Proofs.Ytkaahabgbngodaa.Core Go.Proofs.YtkaahabgbngodaaW.PrintWords Go.Proofs.YtkaahabgbngodaaW.PrintLast Go.IntWalk
set_option linter.unusedSimpArgs false
set_option linter.unusedVariables false
def Ev {α : Type} (F : Nat → Option α) (v : α) : Prop := ∃ k0, ∀ k, k0 ≤ k → F k = some v
theorem Ev.of {α : Type} {F : Nat → Option α} {v : α} (h : ∀ k, F k = some v) : Ev F v := ⟨0, fun k _ => h k⟩
theorem Ev.some {α : Type} {v : α} : Ev (fun _ => some v) v := ⟨0, fun _ _ => rfl⟩
theorem Ev.bind {α β : Type} {F : Nat → Option α} {G : α → Nat → Option β} {a : α} {b : β} (h1 : Ev F a) (h2 : Ev (G a) b) : Ev (fun k => (F k).bind (fun x => G x k)) b := by
  obtain ⟨k1, h1⟩ := h1
  obtain ⟨k2, h2⟩ := h2
  exact ⟨k1 + k2, fun k hk => by show (F k).bind (fun x => G x k) = _; rw [h1 k (by omega)]; exact h2 k (by omega)⟩
theorem Ev.succ {α : Type} {F : Nat → Option α} {v : α} (h : Ev (fun k => F (k + 1)) v) : Ev F v := by
  obtain ⟨k0, h⟩ := h
  refine ⟨k0 + 1, fun k hk => ?_⟩
  obtain ⟨j, rfl⟩ : ∃ j, k = j + 1 := ⟨k - 1, by omega⟩
  exact h j (by omega)
theorem Ev.some' {α : Type} {F : Nat → Option α} {v : α} (h : Ev F v) : ∃ k, F k = Option.some v := ⟨_, h.choose_spec _ (Nat.le_refl _)⟩
theorem Ev.eq {α : Type} {F : Nat → Option α} {v u : α} (h : Ev F v) (e : v = u) : Ev F u := e ▸ h
theorem Ev.cong {α : Type} {F G : Nat → Option α} {v : α} (h : Ev F v) (e : ∀ k, G k = F k) : Ev G v := ⟨h.choose, fun k hk => (e k).trans (h.choose_spec k hk)⟩
theorem bt_loop (bs : ByteArray) : ∀ (n i : Nat) (r : List UInt8), i + n = bs.size → ByteArray.toList.loop bs i r = r.reverse ++ bs.data.toList.drop i := by
  intro n
  induction n with
  | zero =>
    intro i r h
    rw [ByteArray.toList.loop, if_neg (by omega), List.drop_eq_nil_of_le (by rw [Array.length_toList]; have e : bs.size = bs.data.size := rfl; omega)]
    simp
  | succ n ih =>
    intro i r h
    rw [ByteArray.toList.loop, if_pos (by omega), ih (i + 1) _ (by omega)]
    have hi : i < bs.data.toList.length := by rw [Array.length_toList]; have e : bs.size = bs.data.size := rfl; omega
    rw [List.drop_eq_getElem_cons hi]
    have : bs.get! i = bs.data.toList[i] := by
      simp [ByteArray.get!]
      rw [getElem!_pos bs.data i (by simpa using hi)]
    rw [this]
    simp
theorem bt_data (a : ByteArray) : a.toList = a.data.toList := by
  rw [ByteArray.toList, bt_loop a a.size 0 [] (by omega)]
  simp
theorem bt_inj {a b : ByteArray} (h : a.toList = b.toList) : a = b := by
  rw [bt_data, bt_data] at h
  exact ByteArray.ext (Array.toList_inj.mp h)
instance : DecidableEq ByteArray := fun a b => decidable_of_iff (a.data.toList = b.data.toList) ⟨fun h => ByteArray.ext (Array.toList_inj.mp h), fun h => by rw [h]⟩
instance (a : ByteArray) (l : List ByteArray) : Decidable (a ∈ l) := @List.instDecidableMemOfLawfulBEq _ instBEqOfDecidableEq inferInstance a l
theorem toList_eq {a b : ByteArray} : (a.toList = b.toList) ↔ a = b := ⟨bt_inj, fun h => by rw [h]⟩
theorem bits255 (x : Int) : 0 ≤ Go.bits .and .i64 x 255 ∧ Go.bits .and .i64 x 255 ≤ 255 := by
  unfold Go.bits
  dsimp only
  have h : (BitVec.ofInt (Go.IntKind.i64).bits x &&& BitVec.ofInt (Go.IntKind.i64).bits 255).toNat ≤ 255 := by
    rw [BitVec.toNat_and]; exact Nat.and_le_right
  generalize (BitVec.ofInt (Go.IntKind.i64).bits x &&& BitVec.ofInt (Go.IntKind.i64).bits 255).toNat = n at h
  rw [i64_left, wrap64_in _ (by omega)]
  omega
theorem byte_ok (b : List Int) (at_ st : Int) (h : 0 ≤ at_) (hl : (b.length : Int) ≤ 1048576) (h2 : at_ ≤ 1048576 + 1) : ∃ r a s, spec_l01Byte.f b at_ st = some (r, a, s) ∧ 0 ≤ r ∧ r ≤ 255 ∧ 0 ≤ a ∧ a ≤ 1048576 + 1 := by
  unfold spec_l01Byte.f
  by_cases c : at_ < (b.length : Int)
  · rw [if_pos c, if_pos h]
    refine ⟨_, _, _, rfl, (bits255 _).1, (bits255 _).2, ?_, ?_⟩ <;> rw [wrap64_in _ (by omega)] <;> omega
  · rw [if_neg c]
    exact ⟨_, _, _, rfl, (bits255 _).1, (bits255 _).2, h, h2⟩
def Src (b : List Int) (a : Int) : Prop := (b.length : Int) ≤ 1048576 ∧ 0 ≤ a ∧ a ≤ 1048576 + 1
theorem below_ok (b : List Int) (a s n : Int) (h : Src b a) (hn : 0 < n) (hn2 : n ≤ 256) : ∃ r a' s', spec_l01Below.f b a s n = some (r, a', s') ∧ 0 ≤ r ∧ r < n ∧ Src b a' := by
  obtain ⟨r, a', s', e, h1, h2, h3, h4⟩ := byte_ok b a s h.2.1 h.1 h.2.2
  unfold spec_l01Below.f
  rw [if_neg (by omega), if_pos hn2, e]
  refine ⟨Int.tmod r n, a', s', ?_, Int.tmod_nonneg _ h1, Int.tmod_lt_of_pos _ hn, h.1, h3, h4⟩
  show (if n = 0 then none else some (Int.tmod r n, a', s')) = _
  rw [if_neg (by omega)]
theorem new_ok (b : List Int) (h : (b.length : Int) ≤ 1048576) : ∃ s, Ev (fun k => spec_l01New.f k b) (b, 0, s) := by
  have key : ∀ (n : Nat) (x i : Int), 0 ≤ i → i + n = 4000 → ∃ s, Ev (fun k => spec_l01New.l0 k b x i) (b, 0, s) := by
    intro n
    induction n with
    | zero =>
      intro x i h0 hi
      refine ⟨x, Ev.succ ?_⟩
      simp only [spec_l01New.l0]
      by_cases c : i < (b.length : Int)
      · simp only [if_pos c, if_neg (show ¬ i < 4000 by omega)]; exact Ev.some
      · simp only [if_neg c]; exact Ev.some
    | succ n ih =>
      intro x i h0 hi
      by_cases c : i < (b.length : Int)
      · obtain ⟨s, hs⟩ := ih (Go.bits .and .i64 (wrap64 ((wrap64 ((wrap64 (x * 179)) + (wrap64 (rd b i)))) + 7)) 1073741823) (wrap64 (i + 1)) (by rw [wrap64_in _ (by omega)]; omega) (by rw [wrap64_in _ (by omega)]; omega)
        refine ⟨s, Ev.succ ?_⟩
        simp only [spec_l01New.l0]
        simp only [if_pos c, if_pos (show i < 4000 by omega), if_pos h0]
        exact hs
      · refine ⟨x, Ev.succ ?_⟩
        simp only [spec_l01New.l0, if_neg c]
        exact Ev.some
  exact key 4000 _ 0 (by omega) (by omega)
def K8 : List ByteArray := [⟨#[97]⟩, ⟨#[98]⟩, ⟨#[99]⟩, ⟨#[100]⟩, ⟨#[101]⟩, ⟨#[102]⟩, ⟨#[103]⟩, ⟨#[104]⟩]
theorem rdOf_mem (l : List ByteArray) (i : Int) (h0 : 0 ≤ i) (h1 : i < (l.length : Int)) : rdOf ByteArray.empty l i ∈ l := by
  have h2 : i.toNat < l.length := by omega
  have : rdOf ByteArray.empty l i = l[i.toNat] := by simp [rdOf, h2]
  rw [this]; exact List.getElem_mem h2
theorem key_ok (b : List Int) (a s : Int) (h : Src b a) : ∃ r a' s', spec_l10Key.f b a s = some (r, a', s') ∧ r ∈ K8 ∧ Src b a' := by
  obtain ⟨i, a', s', e, h1, h2, h3⟩ := below_ok b a s (K8.length : Int) h (by decide) (by decide)
  refine ⟨rdOf ByteArray.empty K8 i, a', s', ?_, rdOf_mem K8 i h1 h2, h3⟩
  show (spec_l01Of.f b a s K8).bind _ = _
  unfold spec_l01Of.f
  rw [e]
  show ((if 0 ≤ i then (if i < (K8.length : Int) then some (rdOf ByteArray.empty K8 i, a', s') else none) else none)).bind _ = _
  rw [if_pos h1, if_pos h2]; rfl
theorem asks_ok (b : List Int) (n : Int) (h : (b.length : Int) ≤ 1048576) (hn : 0 < n) (hn2 : n ≤ 255) : ∃ l, Ev (fun k => spec_MakeAsks.f k b n) l ∧ (l.length : Int) ≤ n ∧ ∀ x ∈ l, x ∈ K8 := by
  have key : ∀ (m : Nat) (l : List ByteArray) (a s : Int), Src b a → (l.length : Int) + m ≤ n → (∀ x ∈ l, x ∈ K8) → ∃ q a' s', Ev (fun k => spec_l12Asks.l0 k l m b a s) (q, a', s') ∧ (q.length : Int) ≤ n ∧ ∀ x ∈ q, x ∈ K8 := by
    intro m
    induction m with
    | zero =>
      intro l a s hs hl hk
      refine ⟨l, a, s, Ev.succ ?_, by omega, hk⟩
      simp only [spec_l12Asks.l0, if_neg (show ¬ ((0 : Nat) : Int) > 0 by simp)]
      exact Ev.some
    | succ m ih =>
      intro l a s hs hl hk
      obtain ⟨r, a1, s1, e1, g1, g2, hs1⟩ := below_ok b a s 3 hs (by decide) (by decide)
      have hw : wrap64 (((m + 1 : Nat) : Int) - 1) = (m : Int) := by rw [wrap64_in _ (by omega)]; omega
      obtain ⟨y, a2, s2, e2, hy, hs2⟩ := key_ok b a1 s1 hs1
      have fresh : ∃ q a' s', Ev (fun k => spec_l12Asks.j1 k l ((m + 1 : Nat) : Int) false b a1 s1) (q, a', s') ∧ (q.length : Int) ≤ n ∧ ∀ x ∈ q, x ∈ K8 := by
        obtain ⟨q, a', s', e, h1, h2⟩ := ih (l ++ [y]) a2 s2 hs2 (by simp; omega) (by intro x hx; rcases List.mem_append.mp hx with hx | hx; exact hk x hx; rw [List.mem_singleton.mp hx]; exact hy)
        refine ⟨q, a', s', Ev.succ ?_, h1, h2⟩
        simp only [spec_l12Asks.j1, if_neg (show ¬ (false = true) by simp)]
        simp only [e2, Option.bind_some, if_pos (show l.length < 8796093022208 by omega), hw]
        exact e
      have old : l.length > 0 → ∃ q a' s', Ev (fun k => spec_l12Asks.j1 k l ((m + 1 : Nat) : Int) true b a1 s1) (q, a', s') ∧ (q.length : Int) ≤ n ∧ ∀ x ∈ q, x ∈ K8 := by
        intro hl0
        obtain ⟨i, a3, s3, e3, g3, g4, hs3⟩ := below_ok b a1 s1 (l.length : Int) hs1 (by omega) (by omega)
        obtain ⟨q, a', s', e, h1, h2⟩ := ih (l ++ [rdOf ByteArray.empty l i]) a3 s3 hs3 (by simp; omega) (by intro x hx; rcases List.mem_append.mp hx with hx | hx; exact hk x hx; rw [List.mem_singleton.mp hx]; exact hk _ (rdOf_mem l i g3 g4))
        refine ⟨q, a', s', Ev.succ ?_, h1, h2⟩
        simp only [spec_l12Asks.j1, if_pos (show true = true from rfl)]
        simp only [e3, Option.bind_some, if_pos (show l.length < 8796093022208 by omega), if_pos g3, if_pos g4, hw]
        exact e
      have both : ∀ z : Bool, (z = true → l.length > 0) → ∃ q a' s', Ev (fun k => spec_l12Asks.j1 k l ((m + 1 : Nat) : Int) z b a1 s1) (q, a', s') ∧ (q.length : Int) ≤ n ∧ ∀ x ∈ q, x ∈ K8 := by
        intro z hz
        cases z with
        | true => exact old (hz rfl)
        | false => exact fresh
      obtain ⟨q, a', s', e, h1, h2⟩ := both (if r = 0 then decide ((l.length : Int) > 0) else false) (by
        intro hz
        by_cases c : r = 0
        · rw [if_pos c] at hz; simpa using hz
        · rw [if_neg c] at hz; exact absurd hz (by simp))
      refine ⟨q, a', s', Ev.succ ?_, h1, h2⟩
      simp only [spec_l12Asks.l0, if_pos (show ((m + 1 : Nat) : Int) > 0 by omega)]
      simp only [e1, Option.bind_some]
      by_cases c : r = 0
      · rw [if_pos c] at e; simp only [if_pos c]; exact e
      · rw [if_neg c] at e; simp only [if_neg c]; exact e
  obtain ⟨s, hs⟩ := new_ok b h
  obtain ⟨r, a1, s1, e1, g1, g2, hs1⟩ := below_ok b 0 (wrap64 (s + 17)) (wrap64 (n + 1)) ⟨h, by omega, by omega⟩ (by rw [wrap64_in _ (by omega)]; omega) (by rw [wrap64_in _ (by omega)]; omega)
  rw [wrap64_in (n + 1) (by omega)] at g2
  obtain ⟨q, a', s', e, h1, h2⟩ := key r.toNat [] a1 s1 hs1 (by simp; omega) (by simp)
  refine ⟨q, ?_, h1, h2⟩
  unfold spec_MakeAsks.f
  refine Ev.bind hs ?_
  dsimp only
  unfold spec_l12Asks.f
  refine Ev.bind (a := (q, a', s')) ?_ Ev.some
  refine Ev.cong e (fun k => ?_)
  rw [e1]
  show spec_l12Asks.l0 k _ r _ _ _ = _
  rw [show r = (r.toNat : Int) by omega]; rfl
end Go.Proofs.Ytkaahabgbngodaa.Pure
end

section
namespace Go.Proofs.Ytkaahabgbngodaa.Pure
open Go.RowKit Go.Proofs.Ytkaahabgbngodaa.Core Go.Proofs.YtkaahabgbngodaaW.PrintWords Go.Proofs.YtkaahabgbngodaaW.PrintLast Go.IntWalk
set_option linter.unusedSimpArgs false
set_option linter.unusedVariables false
theorem rdOf_mid {α : Type} (d : α) (pre s : List α) (x : α) : rdOf d (pre ++ x :: s) ((pre.length : Nat) : Int) = x := by simp [rdOf, List.getD_eq_getElem?_getD]
theorem up (n : Nat) (h : n < 1000000000) : wrap64 ((n : Int) + 1) = ((n + 1 : Nat) : Int) := by rw [wrap64_in _ (by omega)]; omega
theorem up' {α : Type} (pre : List α) (x : α) (h : pre.length < 1000000000) : wrap64 ((pre.length : Int) + 1) = (((pre ++ [x]).length : Nat) : Int) := by rw [up _ h]; simp
theorem idx_loop (l : List ByteArray) (a : ByteArray) (hl : l.length ≤ 1000000) : ∀ (s pre : List ByteArray), l = pre ++ s → ∃ r, Ev (fun k => slices_Index_string_string.l0 k l a (l.length : Int) (pre.length : Int)) r ∧ (r ≥ 0 ↔ a ∈ s) := by
  intro s
  induction s with
  | nil =>
    intro pre h
    refine ⟨-1, Ev.succ ?_, by simp⟩
    simp only [slices_Index_string_string.l0, if_neg (show ¬ (pre.length : Int) < (l.length : Int) by rw [h]; simp)]
    exact Ev.some
  | cons x s ih =>
    intro pre h
    have hx : rdOf ByteArray.empty l (pre.length : Int) = x := by rw [h]; exact rdOf_mid _ _ _ _
    have h1 : (pre.length : Int) < (l.length : Int) := by rw [h]; simp; omega
    by_cases c : a = x
    · refine ⟨(pre.length : Int), Ev.succ ?_, by simp [c]⟩
      simp only [slices_Index_string_string.l0, if_pos h1, if_pos (show 0 ≤ (pre.length : Int) by omega), hx, if_pos (congrArg ByteArray.toList c)]
      exact Ev.some
    · obtain ⟨r, e, hr⟩ := ih (pre ++ [x]) (by rw [h]; simp)
      refine ⟨r, Ev.succ ?_, by rw [hr]; simp [c]⟩
      simp only [slices_Index_string_string.l0, if_pos h1, if_pos (show 0 ≤ (pre.length : Int) by omega), hx, if_neg (fun he => c (bt_inj he)), up' pre x (by omega)]
      exact e
theorem contains_ok (l : List ByteArray) (a : ByteArray) (hl : l.length ≤ 1000000) : Ev (fun k => slices_Contains_string_string.f k l a) (decide (a ∈ l)) := by
  obtain ⟨r, e, hr⟩ := idx_loop l a hl l [] (by simp)
  unfold slices_Contains_string_string.f slices_Index_string_string.f
  refine Ev.bind e ?_
  refine Ev.eq Ev.some ?_
  exact decide_eq_decide.mpr hr
def dd (acc : List ByteArray) : List ByteArray → List ByteArray
  | [] => acc
  | x :: s => if x ∈ acc then dd acc s else dd (acc ++ [x]) s
theorem dd_mem (s acc : List ByteArray) (y : ByteArray) : y ∈ dd acc s ↔ y ∈ acc ∨ y ∈ s := by
  induction s generalizing acc with
  | nil => simp [dd]
  | cons x s ih =>
    rw [dd]
    split
    · rename_i h
      rw [ih]; simp only [List.mem_cons]
      constructor
      · rintro (h1 | h1)
        · exact .inl h1
        · exact .inr (.inr h1)
      · rintro (h1 | rfl | h1)
        · exact .inl h1
        · exact .inl h
        · exact .inr h1
    · rw [ih]; simp only [List.mem_cons, List.mem_append, List.not_mem_nil, or_false]
      constructor
      · rintro ((h1 | h1) | h1)
        · exact .inl h1
        · exact .inr (.inl h1)
        · exact .inr (.inr h1)
      · rintro (h1 | h1 | h1)
        · exact .inl (.inl h1)
        · exact .inl (.inr h1)
        · exact .inr h1
theorem distinct_loop (l : List ByteArray) (hl : l.length ≤ 1000) : ∀ (s pre acc : List ByteArray), l = pre ++ s → acc.length ≤ pre.length → Ev (fun k => impl_Distinct.l0 k acc l (l.length : Int) (pre.length : Int)) (dd acc s) := by
  intro s
  induction s with
  | nil =>
    intro pre acc h ha
    refine Ev.succ ?_
    simp only [impl_Distinct.l0, if_neg (show ¬ (pre.length : Int) < (l.length : Int) by rw [h]; simp)]
    exact Ev.some
  | cons x s ih =>
    intro pre acc h ha
    have hx : rdOf ByteArray.empty l (pre.length : Int) = x := by rw [h]; exact rdOf_mid _ _ _ _
    have h1 : (pre.length : Int) < (l.length : Int) := by rw [h]; simp; omega
    have h2 : l.length = pre.length + (x :: s).length := by rw [h]; simp
    refine Ev.succ ?_
    simp only [impl_Distinct.l0, if_pos h1, if_pos (show 0 ≤ (pre.length : Int) by omega), hx]
    refine Ev.bind (contains_ok acc x (by simp at h2; omega)) ?_
    rw [dd]
    by_cases c : x ∈ acc
    · simp only [c, decide_true, if_true, up' pre x (by simp at h2; omega)]
      exact ih (pre ++ [x]) acc (by rw [h]; simp) (by simp; omega)
    · simp only [c, decide_false, if_false, Bool.false_eq_true, up' pre x (by simp at h2; omega), if_pos (show acc.length < 8796093022208 by simp at h2; omega)]
      exact ih (pre ++ [x]) (acc ++ [x]) (by rw [h]; simp) (by simp; omega)
theorem distinct_ok (l : List ByteArray) (hl : l.length ≤ 1000) : Ev (fun k => impl_Distinct.f k l) (dd [] l) := distinct_loop l hl l [] [] (by simp) (by simp)
theorem less_ok (b : Bool) : laws_less.f b = some (if b = true then 1 else 0) := by
  unfold laws_less.f
  split <;> rfl
def Plain (x : ByteArray) : Prop := x.size ≤ 1000 ∧ ∀ i : Nat, i < x.size → bt x i ≠ 32 ∧ bt x i ≠ 10
theorem plain_ok (x : ByteArray) (h : Plain x) : Ev (fun k => impl_isPlain.f k x) true := by
  have key : ∀ (n i : Nat), i + n = x.size → Ev (fun k => impl_isPlain.l0 k x (i : Int)) true := by
    intro n
    induction n with
    | zero =>
      intro i hi
      refine Ev.succ ?_
      simp only [impl_isPlain.l0, if_neg (show ¬ (i : Int) < (x.size : Int) by omega)]
      exact Ev.some
    | succ n ih =>
      intro i hi
      refine Ev.succ ?_
      have h1 := h.2 i (by omega)
      have h2 := h.1
      simp only [impl_isPlain.l0, if_pos (show (i : Int) < (x.size : Int) by omega), if_pos (show 0 ≤ (i : Int) by omega), if_neg h1.1, if_neg h1.2, up i (by omega)]
      exact ih (i + 1) (by omega)
  exact key x.size 0 (by omega)
theorem within_ok (a lo hi : Int) (h1 : lo ≤ a) (h2 : a ≤ hi) : impl_within.f a lo hi = some true := by
  unfold impl_within.f
  rw [if_pos h1]; simp [h2]
def KeyOk (x : ByteArray) : Prop := 1 ≤ x.size ∧ x.size ≤ 20 ∧ Plain x
def ValOk (x : ByteArray) : Prop := x.size ≤ 40 ∧ Plain x
theorem item_ok (x v : ByteArray) (fr : Int) (h : KeyOk x) (hv : ValOk v) (h0 : 0 ≤ fr) (h3 : fr ≤ 3) : Ev (fun k => impl_ItemOk.f k x v fr) true := by
  unfold impl_ItemOk.f
  rw [within_ok (x.size : Int) 1 20 (by have := h.1; omega) (by have := h.2.1; omega)]
  simp only [Option.bind_some, if_true, if_pos (show (v.size : Int) ≤ 40 by have := hv.1; omega)]
  refine Ev.bind (plain_ok x h.2.2) ?_
  simp only [if_true]
  refine Ev.bind (plain_ok v hv.2) ?_
  simp only [if_true]
  rw [within_ok fr 0 3 h0 h3]
  exact Ev.some
theorem val_empty : ValOk ⟨#[]⟩ := ⟨by decide, by decide, fun i hi => absurd hi (by simp [ByteArray.size])⟩
theorem asks_loop (l : List ByteArray) (hl : l.length ≤ 300) (hk : ∀ x ∈ l, KeyOk x) : ∀ (s pre : List ByteArray), l = pre ++ s → Ev (fun k => impl_AsksOk.l0 k l l (l.length : Int) (pre.length : Int)) true := by
  intro s
  induction s with
  | nil =>
    intro pre h
    refine Ev.succ ?_
    simp only [impl_AsksOk.l0, if_neg (show ¬ (pre.length : Int) < (l.length : Int) by rw [h]; simp)]
    refine Ev.eq Ev.some ?_
    simp; omega
  | cons x s ih =>
    intro pre h
    have hx : rdOf ByteArray.empty l (pre.length : Int) = x := by rw [h]; exact rdOf_mid _ _ _ _
    have h1 : (pre.length : Int) < (l.length : Int) := by rw [h]; simp; omega
    refine Ev.succ ?_
    simp only [impl_AsksOk.l0, if_pos h1, if_pos (show 0 ≤ (pre.length : Int) by omega), hx]
    refine Ev.bind (item_ok x _ 0 (hk x (by rw [h]; simp)) val_empty (by omega) (by omega)) ?_
    simp only [if_true, up' pre x (by omega)]
    exact ih (pre ++ [x]) (by rw [h]; simp)
theorem asksok_ok (l : List ByteArray) (hl : l.length ≤ 300) (hk : ∀ x ∈ l, KeyOk x) : Ev (fun k => impl_AsksOk.f k l) true := asks_loop l hl hk l [] (by simp)
theorem key8 : ∀ x ∈ K8, KeyOk x := by
  have one : ∀ c : UInt8, c ≠ 32 → c ≠ 10 → KeyOk ⟨#[c]⟩ := by
    intro c h1 h2
    refine ⟨by simp [ByteArray.size], by simp [ByteArray.size], by simp [ByteArray.size], fun i hi => ?_⟩
    have : i = 0 := by simp [ByteArray.size] at hi; exact hi
    subst this
    have hb : bt ⟨#[c]⟩ ((0 : Nat) : Int) = (c.toNat : Int) := rfl
    rw [hb]
    constructor
    · intro he; exact h1 (UInt8.toNat_inj.mp (by have : c.toNat = 32 := by omega
                                                 rw [this]; rfl))
    · intro he; exact h2 (UInt8.toNat_inj.mp (by have : c.toNat = 10 := by omega
                                                 rw [this]; rfl))
  intro x hx
  simp only [K8, List.mem_cons, List.not_mem_nil, or_false] at hx
  rcases hx with rfl | rfl | rfl | rfl | rfl | rfl | rfl | rfl <;> exact one _ (by decide) (by decide)
end Go.Proofs.Ytkaahabgbngodaa.Pure
end

section
namespace Go.Proofs.Ytkaahabgbngodaa.Pure
open Go.RowKit Go.Proofs.Ytkaahabgbngodaa.Core Go.Proofs.YtkaahabgbngodaaW.PrintWords Go.Proofs.YtkaahabgbngodaaW.PrintLast Go.IntWalk
set_option linter.unusedSimpArgs false
set_option linter.unusedVariables false
theorem keyAt_iff (key : ByteArray) (x : S120) : keyAt key x = true ↔ x.f0 = key := by
  unfold keyAt; rw [beq_iff_eq]; exact toList_eq
theorem ixOf_none {xs : List S120} {key : ByteArray} (h : key ∉ xs.map (·.f0)) : ixOf xs key = -1 := by
  have : xs.findIdx? (keyAt key) = none := by
    rw [List.findIdx?_eq_none_iff]
    intro x hx
    rw [Bool.eq_false_iff]
    intro he
    exact h (List.mem_map.mpr ⟨x, hx, (keyAt_iff _ _).mp he⟩)
  unfold ixOf; rw [this]
theorem ixOf_some {xs : List S120} {key : ByteArray} (h : key ∈ xs.map (·.f0)) : ∃ (i : Nat) (hi : i < xs.length), ixOf xs key = (i : Int) ∧ xs[i].f0 = key := by
  cases e : xs.findIdx? (keyAt key) with
  | none =>
    rw [List.findIdx?_eq_none_iff] at e
    obtain ⟨x, hx, hk⟩ := List.mem_map.mp h
    exact absurd ((keyAt_iff key x).mpr hk) (by rw [e x hx]; simp)
  | some i =>
    have e2 := e
    rw [List.findIdx?_eq_some_iff_getElem] at e
    obtain ⟨hi, hp, _⟩ := e
    refine ⟨i, hi, ?_, (keyAt_iff _ _).mp hp⟩
    unfold ixOf
    rw [e2]
theorem ixOf_at {xs : List S120} (h : (xs.map (·.f0)).Nodup) (i : Nat) (hi : i < xs.length) : ixOf xs xs[i].f0 = (i : Int) := by
  obtain ⟨j, hj, e, hk⟩ := ixOf_some (xs := xs) (key := xs[i].f0) (List.mem_map.mpr ⟨_, List.getElem_mem hi, rfl⟩)
  rw [e]
  have : j = i := by
    have h1 : (xs.map (·.f0))[j]'(by simpa using hj) = (xs.map (·.f0))[i]'(by simpa using hi) := by simpa using hk
    exact (List.getElem_inj h).mp h1
  rw [this]
theorem rdT (xs : List S120) (i : Nat) (hi : i < xs.length) : rd_T120 xs (i : Int) = xs[i] := by simp [rd_T120, hi]
def ItemGood (m : Int) (x : S120) : Prop := KeyOk x.f0 ∧ ValOk x.f1 ∧ 0 ≤ x.f2 ∧ x.f2 ≤ m
def top (kd : Int) : Int := if kd = 3 then 1 else 0
structure RowGood (kd cp : Int) (xs : List S120) : Prop where
  kd1 : 1 ≤ kd
  kd3 : kd ≤ 3
  cp1 : 1 ≤ cp
  cp60 : cp ≤ 60
  len : (xs.length : Int) ≤ cp
  nod : (xs.map (·.f0)).Nodup
  items : ∀ x ∈ xs, ItemGood (top kd) x
theorem top_le (kd : Int) : 0 ≤ top kd ∧ top kd ≤ 1 := by unfold top; split <;> omega
theorem areItems_ok (xs : List S120) (hl : xs.length ≤ 1000) (hn : (xs.map (·.f0)).Nodup) (hk : ∀ x ∈ xs, ItemGood 3 x) : Ev (fun k => impl_areItems.f k xs) true := by
  have key : ∀ (n i : Nat), i + n = xs.length → Ev (fun k => impl_areItems.l0 k xs xs (xs.length : Int) (i : Int)) true := by
    intro n
    induction n with
    | zero =>
      intro i hi
      refine Ev.succ ?_
      simp only [impl_areItems.l0, if_neg (show ¬ (i : Int) < (xs.length : Int) by omega)]
      exact Ev.some
    | succ n ih =>
      intro i hi
      have hlt : i < xs.length := by omega
      have hg := hk _ (List.getElem_mem hlt)
      refine Ev.succ ?_
      simp only [impl_areItems.l0, if_pos (show (i : Int) < (xs.length : Int) by omega), if_pos (show 0 ≤ (i : Int) by omega), rdT xs i hlt]
      refine Ev.bind (item_ok _ _ _ hg.1 hg.2.1 hg.2.2.1 hg.2.2.2) ?_
      simp only [if_true, impl_itemAt.f, Option.bind_some, ixOf_at hn i hlt, up i (by omega)]
      exact ih (i + 1) (by omega)
  exact key xs.length 0 (by omega)
theorem rowok_ok {kd cp : Int} {xs : List S120} (h : RowGood kd cp xs) : Ev (fun k => impl_RowOk.f k kd cp xs) true := by
  have hl : xs.length ≤ 60 := by have := h.len; have := h.cp60; omega
  have key : ∀ (n i : Nat), i + n = xs.length → Ev (fun k => impl_RowOk.l0 k (top kd) xs (xs.length : Int) (i : Int) kd cp xs) true := by
    intro n
    induction n with
    | zero =>
      intro i hi
      refine Ev.succ ?_
      simp only [impl_RowOk.l0, if_neg (show ¬ (i : Int) < (xs.length : Int) by omega), within_ok kd 1 3 h.kd1 h.kd3, within_ok cp 1 60 h.cp1 h.cp60, Option.bind_some, if_true, if_pos h.len]
      refine Ev.bind (areItems_ok xs (by omega) h.nod (fun x hx => ?_)) Ev.some
      have := h.items x hx
      exact ⟨this.1, this.2.1, this.2.2.1, by have := this.2.2.2; have := (top_le kd).2; omega⟩
    | succ n ih =>
      intro i hi
      have hlt : i < xs.length := by omega
      have hg := h.items _ (List.getElem_mem hlt)
      refine Ev.succ ?_
      simp only [impl_RowOk.l0, if_pos (show (i : Int) < (xs.length : Int) by omega), if_pos (show 0 ≤ (i : Int) by omega), rdT xs i hlt, within_ok _ 0 (top kd) hg.2.2.1 hg.2.2.2, Option.bind_some, if_true, up i (by omega)]
      exact ih (i + 1) (by omega)
  have k2 := key xs.length 0 (by omega)
  unfold impl_RowOk.f
  by_cases c : kd = 3
  · simp only [if_pos c]
    refine Ev.succ ?_
    simp only [impl_RowOk.j0]
    rw [top, if_pos c] at k2
    exact k2
  · simp only [if_neg c]
    refine Ev.succ ?_
    simp only [impl_RowOk.j0]
    rw [top, if_neg c] at k2
    exact k2
theorem rownew_ok {kd cp : Int} (h1 : 1 ≤ kd) (h3 : kd ≤ 3) (c1 : 1 ≤ cp) (c60 : cp ≤ 60) : Ev (fun k => impl_RowNew.f k kd cp) (kd, cp, [], true) ∧ RowGood kd cp [] := by
  have g : RowGood kd cp [] := ⟨h1, h3, c1, c60, by simp; omega, by simp, by simp⟩
  refine ⟨?_, g⟩
  unfold impl_RowNew.f
  refine Ev.bind (rowok_ok g) ?_
  simp only [if_true]
  exact Ev.some
theorem spin_ok (m : Int) (hm : m ≤ 1) : ∀ (t u : List S120) (n : Nat), t.length < n → t ++ u ≠ [] → (∀ x ∈ t, ItemGood m x) → (∀ x ∈ u, ItemGood m x ∧ x.f2 = 0) →
    ∃ q, spin n (t ++ u) = some q ∧ q ≠ [] ∧ (q.map (·.f0)).Perm ((t ++ u).map (·.f0)) ∧ ∀ x ∈ q, ItemGood m x := by
  intro t
  induction t with
  | nil =>
    intro u n hn hne ht hu
    cases n with
    | zero => exact absurd hn (by simp)
    | succ n =>
      cases u with
      | nil => exact absurd rfl hne
      | cons y u =>
        refine ⟨y :: u, ?_, by simp, List.Perm.refl _, fun x hx => (hu x hx).1⟩
        show spin (n + 1) (y :: u) = _
        rw [spin, if_neg (by rw [(hu y (by simp)).2]; decide)]
  | cons y t ih =>
    intro u n hn hne ht hu
    cases n with
    | zero => exact absurd hn (by simp)
    | succ n =>
      have hy := ht y (by simp)
      by_cases c : y.f2 = 1
      · obtain ⟨q, e, h1, h2, h3⟩ := ih (u ++ [⟨y.f0, y.f1, 0⟩]) n (by simp at hn; omega) (by simp) (fun x hx => ht x (by simp [hx])) (by
          intro x hx
          rcases List.mem_append.mp hx with hx | hx
          · exact hu x hx
          · rw [List.mem_singleton.mp hx]
            exact ⟨⟨hy.1, hy.2.1, by simp, by have := hy.2.2.1; have := hy.2.2.2; simp; omega⟩, rfl⟩)
        refine ⟨q, ?_, h1, ?_, h3⟩
        · show spin (n + 1) (y :: (t ++ u)) = _
          rw [spin, if_pos c, ← e, List.append_assoc]
        · refine h2.trans ?_
          simp only [List.map_append, List.map_cons, List.map_nil, List.cons_append]
          rw [← List.append_assoc]
          exact List.perm_append_singleton _ _
      · refine ⟨y :: (t ++ u), ?_, by simp, List.Perm.refl _, ?_⟩
        · show spin (n + 1) (y :: (t ++ u)) = _
          rw [spin, if_neg c]
        · intro x hx
          rcases List.mem_cons.mp hx with rfl | hx
          · exact hy
          · rcases List.mem_append.mp hx with hx | hx
            · exact ht x (by simp [hx])
            · exact (hu x hx).1
def spinM (xs : List S120) : List S120 := (spin (xs.length + 1) xs).getD []
def NEW (key : ByteArray) : S120 := ⟨key, ⟨#[]⟩, 0⟩
def askM (kd cp : Int) (xs : List S120) (key : ByteArray) : List S120 × Bool × Int :=
  if ixOf xs key < 0 then (if (xs.length : Int) = cp then ((spinM xs).tail ++ [NEW key], false, 1) else (xs ++ [NEW key], false, 0)) else (askedRow kd xs (ixOf xs key).toNat, true, 0)
theorem spinM_ok {m : Int} (hm : m ≤ 1) {xs : List S120} (h0 : xs ≠ []) (h : ∀ x ∈ xs, ItemGood m x) : spin (xs.length + 1) xs = some (spinM xs) ∧ spinM xs ≠ [] ∧ ((spinM xs).map (·.f0)).Perm (xs.map (·.f0)) ∧ ∀ x ∈ spinM xs, ItemGood m x := by
  obtain ⟨q, e, h1, h2, h3⟩ := spin_ok m hm xs [] (xs.length + 1) (by omega) (by simpa using h0) h (by simp)
  rw [List.append_nil] at e h2
  have : spinM xs = q := by unfold spinM; rw [e]; rfl
  rw [this]
  exact ⟨e, h1, h2, h3⟩
theorem erase_perm {α : Type} (xs : List α) (i : Nat) (hi : i < xs.length) : (xs[i] :: xs.eraseIdx i).Perm xs := by
  rw [List.eraseIdx_eq_take_drop_succ]
  refine List.perm_middle.symm.trans ?_
  rw [← List.drop_eq_getElem_cons hi, List.take_append_drop]
theorem asked_good {kd cp : Int} {xs : List S120} (h : RowGood kd cp xs) (i : Nat) (hi : i < xs.length) : RowGood kd cp (askedRow kd xs i) ∧ ((askedRow kd xs i).map (·.f0)).Perm (xs.map (·.f0)) := by
  unfold askedRow
  by_cases c2 : kd = 2
  · rw [if_pos c2, rdT xs i hi]
    have hp : (xs.eraseIdx i ++ [xs[i]]).Perm xs := (List.perm_append_singleton _ _).trans (erase_perm xs i hi)
    have hp2 := hp.map (·.f0)
    exact ⟨⟨h.kd1, h.kd3, h.cp1, h.cp60, by rw [hp.length_eq]; exact h.len, hp2.nodup_iff.mpr h.nod, fun x hx => h.items x (hp.mem_iff.mp hx)⟩, hp2⟩
  · rw [if_neg c2]
    by_cases c3 : kd = 3
    · rw [if_pos c3, rdT xs i hi]
      have hm : (xs.set i ⟨xs[i].f0, xs[i].f1, 1⟩).map (·.f0) = xs.map (·.f0) := by
        rw [List.map_set]
        have : xs[i].f0 = (xs.map (·.f0))[i]'(by simpa using hi) := by simp
        show (xs.map (·.f0)).set i xs[i].f0 = _
        rw [this, List.set_getElem_self]
      refine ⟨⟨h.kd1, h.kd3, h.cp1, h.cp60, by simpa using h.len, by rw [hm]; exact h.nod, fun x hx => ?_⟩, by rw [hm]⟩
      rcases List.mem_or_eq_of_mem_set hx with hx | rfl
      · exact h.items x hx
      · have := h.items _ (List.getElem_mem hi)
        exact ⟨this.1, this.2.1, by simp, by simp [top, c3]⟩
    · rw [if_neg c3]; exact ⟨h, List.Perm.refl _⟩
theorem ask_good {kd cp : Int} {xs : List S120} {key : ByteArray} (h : RowGood kd cp xs) (hk : KeyOk key) : RowGood kd cp (askM kd cp xs key).1 := by
  unfold askM
  by_cases c : key ∈ xs.map (·.f0)
  · obtain ⟨i, hi, e, _⟩ := ixOf_some c
    rw [if_neg (by omega), e]
    exact (asked_good h i hi).1
  · have e := ixOf_none c
    rw [if_pos (by omega)]
    have new : ItemGood (top kd) (NEW key) := ⟨hk, val_empty, by simp [NEW], by have := (top_le kd).1; simp [NEW]; omega⟩
    by_cases cf : (xs.length : Int) = cp
    · rw [if_pos cf]
      have hne : xs ≠ [] := by rintro rfl; have := h.cp1; simp at cf; omega
      obtain ⟨_, h1, h2, h3⟩ := spinM_ok (top_le kd).2 hne h.items
      have hsub : ((spinM xs).tail).Sublist (spinM xs) := List.tail_sublist _
      have hl := h2.length_eq
      simp at hl
      refine ⟨h.kd1, h.kd3, h.cp1, h.cp60, ?_, ?_, ?_⟩
      · simp
        have : 0 < (spinM xs).length := List.length_pos_iff.mpr h1
        omega
      · simp only [List.map_append, List.map_cons, List.map_nil]
        rw [List.nodup_append]
        refine ⟨(h2.nodup_iff.mpr h.nod).sublist (hsub.map _), by simp, ?_⟩
        intro a ha b hb
        rw [List.mem_singleton.mp hb]
        rintro rfl
        exact c (h2.mem_iff.mp ((hsub.map _).subset ha))
      · intro x hx
        rcases List.mem_append.mp hx with hx | hx
        · exact h3 x (hsub.subset hx)
        · rw [List.mem_singleton.mp hx]; exact new
    · rw [if_neg cf]
      refine ⟨h.kd1, h.kd3, h.cp1, h.cp60, by have := h.len; simp; omega, ?_, ?_⟩
      · simp only [List.map_append, List.map_cons, List.map_nil]
        rw [List.nodup_append]
        refine ⟨h.nod, by simp, ?_⟩
        intro a ha b hb
        rw [List.mem_singleton.mp hb]
        rintro rfl
        exact c ha
      · intro x hx
        rcases List.mem_append.mp hx with hx | hx
        · exact h.items x hx
        · rw [List.mem_singleton.mp hx]; exact new
theorem ask_ok {kd cp : Int} {xs : List S120} {key : ByteArray} (h : RowGood kd cp xs) (hk : KeyOk key) : Ev (fun k => askRow k kd cp xs key) (kd, cp, (askM kd cp xs key).1, (askM kd cp xs key).2.1, (askM kd cp xs key).2.2) := by
  have hl : xs.length < 1000000 := by have := h.len; have := h.cp60; omega
  unfold askRow askM
  by_cases c : key ∈ xs.map (·.f0)
  · obtain ⟨i, hi, e, _⟩ := ixOf_some c
    have hneg : ¬ ixOf xs key < 0 := by omega
    simp only [if_neg hneg]
    refine Ev.bind (a := (kd, cp, askedRow kd xs (ixOf xs key).toNat, (rd_T120 xs (ixOf xs key)).f1, true)) ?_ ?_
    · unfold impl_RowGet.f
      simp only [if_pos hl]
      refine Ev.bind (rowok_ok h) ?_
      simp only [if_true, if_neg hneg]
      exact Ev.some
    · simp only [if_true]
      exact Ev.some
  · have e := ixOf_none c
    have hneg : ixOf xs key < 0 := by omega
    simp only [if_pos hneg]
    refine Ev.bind (a := (kd, cp, xs, (⟨#[]⟩ : ByteArray), false)) ?_ ?_
    · unfold impl_RowGet.f
      simp only [if_pos hl]
      refine Ev.bind (rowok_ok h) ?_
      simp only [if_true, if_pos hneg]
      exact Ev.some
    · simp only [Bool.false_eq_true, if_false]
      by_cases cf : (xs.length : Int) = cp
      · simp only [if_pos cf]
        have hne : xs ≠ [] := by rintro rfl; have := h.cp1; simp at cf; omega
        obtain ⟨h0, h1, h2, h3⟩ := spinM_ok (top_le kd).2 hne h.items
        refine Ev.bind (a := (kd, cp, (spinM xs).tail ++ [NEW key], [(rd_T120 (spinM xs) 0).f0], true)) ?_ ?_
        · unfold impl_RowPut.f
          simp only [if_pos hl]
          refine Ev.bind (rowok_ok h) ?_
          simp only [if_true]
          refine Ev.bind (item_ok key _ 0 hk val_empty (by omega) (by omega)) ?_
          simp only [if_true, if_pos hneg, if_pos cf, h0, Option.bind_some]
          exact Ev.some
        · exact Ev.some
      · simp only [if_neg cf]
        refine Ev.bind (a := (kd, cp, xs ++ [NEW key], [], true)) ?_ ?_
        · unfold impl_RowPut.f
          simp only [if_pos hl]
          refine Ev.bind (rowok_ok h) ?_
          simp only [if_true]
          refine Ev.bind (item_ok key _ 0 hk val_empty (by omega) (by omega)) ?_
          simp only [if_true, if_pos hneg, if_neg cf]
          exact Ev.some
        · exact Ev.some
end Go.Proofs.Ytkaahabgbngodaa.Pure
end

section
namespace Go.Proofs.Ytkaahabgbngodaa.Pure
open Go.RowKit Go.Proofs.Ytkaahabgbngodaa.Core Go.Proofs.YtkaahabgbngodaaW.PrintWords Go.Proofs.YtkaahabgbngodaaW.PrintLast Go.IntWalk
set_option linter.unusedSimpArgs false
set_option linter.unusedVariables false
theorem gone_01 (kd cp : Int) (xs : List S120) (key : ByteArray) : 0 ≤ (askM kd cp xs key).2.2 ∧ (askM kd cp xs key).2.2 ≤ 1 := by
  unfold askM; split <;> (try split) <;> simp
def runM (kd cp : Int) : List S120 → List ByteArray → List S120 × List Bool × Int
  | xs, [] => (xs, [], 0)
  | xs, x :: l => ((runM kd cp (askM kd cp xs x).1 l).1, (askM kd cp xs x).2.1 :: (runM kd cp (askM kd cp xs x).1 l).2.1, (askM kd cp xs x).2.2 + (runM kd cp (askM kd cp xs x).1 l).2.2)
theorem run_good {kd cp : Int} : ∀ (l : List ByteArray) (xs : List S120), RowGood kd cp xs → (∀ x ∈ l, KeyOk x) → RowGood kd cp (runM kd cp xs l).1
  | [], _, h, _ => h
  | x :: l, xs, h, hk => run_good l _ (ask_good h (hk x (by simp))) (fun y hy => hk y (by simp [hy]))
theorem run_length {kd cp : Int} : ∀ (l : List ByteArray) (xs : List S120), (runM kd cp xs l).2.1.length = l.length
  | [], _ => rfl
  | x :: l, xs => by simp [runM, run_length l]
theorem askGo_ok {kd cp : Int} (l : List ByteArray) (hl : l.length ≤ 1000) (hk : ∀ x ∈ l, KeyOk x) : ∀ (s pre : List ByteArray) (xs : List S120) (hs : List Bool) (gn : Int), l = pre ++ s → RowGood kd cp xs → hs.length = pre.length → 0 ≤ gn → gn ≤ pre.length →
    ∃ k0, ∀ k, k0 ≤ k → ∀ n, s.length < n → askGo k l n (pre.length : Int) kd cp xs hs gn = some (kd, cp, (runM kd cp xs s).1, hs ++ (runM kd cp xs s).2.1, gn + (runM kd cp xs s).2.2) := by
  intro s
  induction s with
  | nil =>
    intro pre xs hs gn h hg hh h0 h1
    refine ⟨0, fun k _ n hn => ?_⟩
    cases n with
    | zero => exact absurd hn (by simp)
    | succ n =>
      rw [askGo, if_neg (show ¬ (pre.length : Int) < (l.length : Int) by rw [h]; simp)]
      simp [runM]
  | cons x s ih =>
    intro pre xs hs gn h hg hh h0 h1
    have hx : rdOf ByteArray.empty l (pre.length : Int) = x := by rw [h]; exact rdOf_mid _ _ _ _
    have hlt : (pre.length : Int) < (l.length : Int) := by rw [h]; simp; omega
    have hkx : KeyOk x := hk x (by rw [h]; simp)
    have h01 := gone_01 kd cp xs x
    obtain ⟨k1, e1⟩ := ask_ok hg hkx
    have hw : wrap64 (gn + (askM kd cp xs x).2.2) = gn + (askM kd cp xs x).2.2 := wrap64_in _ (by omega)
    obtain ⟨k2, e2⟩ := ih (pre ++ [x]) (askM kd cp xs x).1 (hs ++ [(askM kd cp xs x).2.1]) (gn + (askM kd cp xs x).2.2) (by rw [h]; simp) (ask_good hg hkx) (by simp [hh]) (by omega) (by simp; omega)
    refine ⟨k1 + k2, fun k hk' n hn => ?_⟩
    cases n with
    | zero => exact absurd hn (by simp)
    | succ n =>
      have e3 : askRow k kd cp xs x = _ := e1 k (by omega)
      rw [askGo, if_pos hlt, if_pos (by omega), hx, e3]
      show (if hs.length < 140737488355328 then askGo k l n (wrap64 ((pre.length : Int) + 1)) kd cp (askM kd cp xs x).1 (hs ++ [(askM kd cp xs x).2.1]) (wrap64 (gn + (askM kd cp xs x).2.2)) else none) = _
      rw [if_pos (by omega), up' pre x (by omega), hw, e2 k (by omega) n (by simp at hn; omega)]
      simp [runM, Int.add_assoc]
theorem go_ok {kd cp : Int} (l : List ByteArray) (hl : l.length ≤ 1000) (hk : ∀ x ∈ l, KeyOk x) (hg : RowGood kd cp []) : Ev (fun k => askGo k l k 0 kd cp [] [] 0) (kd, cp, (runM kd cp [] l).1, (runM kd cp [] l).2.1, (runM kd cp [] l).2.2) := by
  obtain ⟨k0, h⟩ := askGo_ok (kd := kd) (cp := cp) l hl hk l [] [] [] 0 (by simp) hg rfl (by omega) (by simp)
  refine ⟨k0 + l.length + 1, fun k hk' => ?_⟩
  have := h k (by omega) k (by omega)
  simpa using this
theorem keys_ok {kd cp : Int} {xs : List S120} (h : RowGood kd cp xs) : Ev (fun k => impl_RowKeys.f k kd cp xs) (xs.map (·.f0)) := by
  have hl : xs.length ≤ 60 := by have := h.len; have := h.cp60; omega
  have key : ∀ (n i : Nat) (acc : List ByteArray), i + n = xs.length → acc.length = i → Ev (fun k => impl_RowKeys.l0 k acc xs (xs.length : Int) (i : Int)) (acc ++ (xs.drop i).map (·.f0)) := by
    intro n
    induction n with
    | zero =>
      intro i acc hi ha
      refine Ev.succ ?_
      simp only [impl_RowKeys.l0, if_neg (show ¬ (i : Int) < (xs.length : Int) by omega)]
      refine Ev.eq Ev.some ?_
      rw [List.drop_eq_nil_of_le (by omega)]; simp
    | succ n ih =>
      intro i acc hi ha
      have hlt : i < xs.length := by omega
      refine Ev.succ ?_
      simp only [impl_RowKeys.l0, if_pos (show (i : Int) < (xs.length : Int) by omega), if_pos (show 0 ≤ (i : Int) by omega), rdT xs i hlt, if_pos (show acc.length < 8796093022208 by omega), up i (by omega)]
      refine Ev.eq (ih (i + 1) (acc ++ [xs[i].f0]) (by omega) (by simp [ha])) ?_
      rw [List.drop_eq_getElem_cons hlt, List.map_cons, List.append_assoc, List.singleton_append]
  unfold impl_RowKeys.f
  simp only [Option.bind_some]
  refine Ev.bind (rowok_ok h) ?_
  simp only [if_true]
  refine Ev.eq (key xs.length 0 [] (by omega) rfl) ?_
  simp
theorem setup_ok {kd cp : Int} (h1 : 1 ≤ kd) (h3 : kd ≤ 3) (c1 : 1 ≤ cp) (c60 : cp ≤ 60) : Ev (fun k => impl_SetupOk.f k kd cp 0) true := by
  unfold impl_SetupOk.f
  simp only [if_neg (show ¬ kd = 4 by omega)]
  refine Ev.bind (rownew_ok h1 h3 c1 c60).1 ?_
  exact Ev.eq Ev.some (by simp)
theorem set_ok {kd cp : Int} (l : List ByteArray) (h1 : 1 ≤ kd) (h3 : kd ≤ 3) (c1 : 1 ≤ cp) (c60 : cp ≤ 60) (hl : l.length ≤ 300) (hk : ∀ x ∈ l, KeyOk x) :
    Ev (fun k => askSet k kd cp 0 l) (some (kd, cp, (runM kd cp [] l).1, (runM kd cp [] l).2.1, (runM kd cp [] l).2.2)) := by
  unfold askSet
  refine Ev.bind (setup_ok h1 h3 c1 c60) ?_
  simp only [if_true]
  refine Ev.bind (asksok_ok l hl hk) ?_
  simp only [if_true]
  refine Ev.bind (rownew_ok h1 h3 c1 c60).1 ?_
  dsimp only
  refine Ev.bind (go_ok l (by omega) hk (rownew_ok h1 h3 c1 c60).2) ?_
  exact Ev.some
theorem holds_ok {kd cp : Int} (l : List ByteArray) (h1 : 1 ≤ kd) (h3 : kd ≤ 3) (c1 : 1 ≤ cp) (c60 : cp ≤ 60) (hl : l.length ≤ 300) (hk : ∀ x ∈ l, KeyOk x) :
    Ev (fun k => impl_Holds.f k kd cp 0 l) ((runM kd cp [] l).1.map (·.f0)) := by
  unfold impl_Holds.f impl_Holds.fR
  simp only [if_neg (show ¬ kd = 4 by omega)]
  refine Ev.bind (set_ok l h1 h3 c1 c60 hl hk) ?_
  dsimp only
  exact keys_ok (run_good l [] (rownew_ok h1 h3 c1 c60).2 hk)
theorem hits_ok {kd cp : Int} (l : List ByteArray) (h1 : 1 ≤ kd) (h3 : kd ≤ 3) (c1 : 1 ≤ cp) (c60 : cp ≤ 60) (hl : l.length ≤ 300) (hk : ∀ x ∈ l, KeyOk x) :
    Ev (fun k => impl_HitsOf.f k kd cp 0 l) (runM kd cp [] l).2.1 := by
  unfold impl_HitsOf.f impl_HitsOf.fR
  simp only [if_neg (show ¬ kd = 4 by omega)]
  refine Ev.bind (set_ok l h1 h3 c1 c60 hl hk) ?_
  dsimp only
  exact Ev.some
theorem hitsIn_ok (hs : List Bool) (hl : hs.length ≤ 1000) : Ev (fun k => impl_hitsIn.f k hs) (hs.count true : Int) := by
  have key : ∀ (s pre : List Bool) (c : Nat), hs = pre ++ s → c ≤ pre.length → Ev (fun k => impl_hitsIn.l0 k (c : Int) hs (hs.length : Int) (pre.length : Int)) ((c + s.count true : Nat) : Int) := by
    intro s
    induction s with
    | nil =>
      intro pre c h hc
      refine Ev.succ ?_
      simp only [impl_hitsIn.l0, if_neg (show ¬ (pre.length : Int) < (hs.length : Int) by rw [h]; simp)]
      exact Ev.eq Ev.some (by simp)
    | cons x s ih =>
      intro pre c h hc
      have hx : rdOf false hs (pre.length : Int) = x := by rw [h]; exact rdOf_mid _ _ _ _
      have hlt : (pre.length : Int) < (hs.length : Int) := by rw [h]; simp; omega
      refine Ev.succ ?_
      simp only [impl_hitsIn.l0, if_pos hlt, if_pos (show 0 ≤ (pre.length : Int) by omega), hx]
      cases x with
      | true =>
        simp only [if_true, up' pre true (by omega), up c (by omega)]
        refine Ev.eq (ih (pre ++ [true]) (c + 1) (by rw [h]; simp) (by simp; omega)) ?_
        simp; omega
      | false =>
        simp only [Bool.false_eq_true, if_false, up' pre false (by omega)]
        refine Ev.eq (ih (pre ++ [false]) c (by rw [h]; simp) (by simp; omega)) ?_
        simp
  unfold impl_hitsIn.f
  refine Ev.eq (key hs [] 0 (by simp) (by simp)) ?_
  simp
theorem count_ok {kd cp : Int} (l : List ByteArray) (h1 : 1 ≤ kd) (h3 : kd ≤ 3) (c1 : 1 ≤ cp) (c60 : cp ≤ 60) (hl : l.length ≤ 300) (hk : ∀ x ∈ l, KeyOk x) :
    Ev (fun k => impl_CountOf.f k kd cp 0 l) ((l.length : Int), ((runM kd cp [] l).2.1.count true : Int), (l.length : Int) - ((runM kd cp [] l).2.1.count true : Int), (runM kd cp [] l).2.2) := by
  unfold impl_CountOf.f impl_CountOf.fR
  simp only [if_neg (show ¬ kd = 4 by omega)]
  refine Ev.bind (set_ok l h1 h3 c1 c60 hl hk) ?_
  dsimp only
  have hlen : (runM kd cp [] l).2.1.length = l.length := run_length l []
  refine Ev.bind (hitsIn_ok _ (by omega)) ?_
  refine Ev.eq Ev.some ?_
  have hc : (runM kd cp [] l).2.1.count true ≤ (runM kd cp [] l).2.1.length := List.count_le_length
  rw [wrap64_in _ (by omega)]
end Go.Proofs.Ytkaahabgbngodaa.Pure
end

section
namespace Go.Proofs.Ytkaahabgbngodaa.Pure
open Go.RowKit Go.Proofs.Ytkaahabgbngodaa.Core Go.Proofs.YtkaahabgbngodaaW.PrintWords Go.Proofs.YtkaahabgbngodaaW.PrintLast Go.IntWalk
set_option linter.unusedSimpArgs false
set_option linter.unusedVariables false
theorem xor_num (h b : Int) (h0 : 0 ≤ h) (h1 : h ≤ 4294967295) (b0 : 0 ≤ b) (b1 : b ≤ 255) : 0 ≤ Go.bits .xor .i64 h b ∧ Go.bits .xor .i64 h b ≤ 4294967295 := by
  unfold Go.bits
  dsimp only
  have hh : (BitVec.ofInt (Go.IntKind.i64).bits h).toNat < 2 ^ 32 := by
    rw [BitVec.toNat_ofInt]
    show (h % ((2 ^ 64 : Nat) : Int)).toNat < 2 ^ 32
    rw [Int.emod_eq_of_lt h0 (by omega)]
    omega
  have hb : (BitVec.ofInt (Go.IntKind.i64).bits b).toNat < 2 ^ 32 := by
    rw [BitVec.toNat_ofInt]
    show (b % ((2 ^ 64 : Nat) : Int)).toNat < 2 ^ 32
    rw [Int.emod_eq_of_lt b0 (by omega)]
    omega
  have hx : (BitVec.ofInt (Go.IntKind.i64).bits h ^^^ BitVec.ofInt (Go.IntKind.i64).bits b).toNat < 2 ^ 32 := by
    rw [BitVec.toNat_xor]
    exact Nat.xor_lt_two_pow hh hb
  generalize (BitVec.ofInt (Go.IntKind.i64).bits h ^^^ BitVec.ofInt (Go.IntKind.i64).bits b).toNat = n at hx
  rw [i64_left, wrap64_in _ (by omega)]
  omega
theorem hash_loop (x : ByteArray) (hx : x.size ≤ 1000) : ∀ (n i : Nat) (h : Int), i + n = x.size → 0 ≤ h → h ≤ 4294967295 → ∃ r, Ev (fun k => impl_Hash.l0 k x h (i : Int)) r ∧ 0 ≤ r ∧ r ≤ 4294967295 := by
  intro n
  induction n with
  | zero =>
    intro i h hi h0 h1
    refine ⟨h, Ev.succ ?_, h0, h1⟩
    simp only [impl_Hash.l0, if_neg (show ¬ (i : Int) < (x.size : Int) by omega)]
    exact Ev.some
  | succ n ih =>
    intro i h hi h0 h1
    obtain ⟨b0, b1⟩ := bt_range x i
    have hw : wrap64 (bt x i) = bt x i := wrap64_in _ (by omega)
    obtain ⟨x0, x1⟩ := xor_num h (bt x i) h0 h1 b0 b1
    have hm : wrap64 ((Go.bits .xor .i64 h (bt x i)) * 16777619) = (Go.bits .xor .i64 h (bt x i)) * 16777619 := wrap64_in _ (by omega)
    obtain ⟨r, e, r0, r1⟩ := ih (i + 1) (Int.tmod ((Go.bits .xor .i64 h (bt x i)) * 16777619) 4294967296) (by omega) (Int.tmod_nonneg _ (by omega)) (by have := Int.tmod_lt_of_pos ((Go.bits .xor .i64 h (bt x i)) * 16777619) (show (0 : Int) < 4294967296 by omega); omega)
    refine ⟨r, Ev.succ ?_, r0, r1⟩
    simp only [impl_Hash.l0, if_pos (show (i : Int) < (x.size : Int) by omega), if_pos (show 0 ≤ (i : Int) by omega), hw, hm, up i (by omega)]
    exact e
theorem hash_ok (x : ByteArray) (hx : x.size ≤ 1000) : ∃ r, Ev (fun k => impl_Hash.f k x) r ∧ 0 ≤ r ∧ r ≤ 4294967295 := by
  unfold impl_Hash.f
  exact hash_loop x hx x.size 0 2166136261 (by omega) (by omega) (by omega)
structure GhGood (gh : List Int) : Prop where
  nod : gh.Nodup
  num : ∀ x ∈ gh, 0 ≤ x ∧ x ≤ 4294967295
theorem ghGood_iff : ∀ (s pre : List Int), pre.Nodup → (ghGood pre s = true ↔ (pre ++ s).Nodup ∧ ∀ x ∈ s, 0 ≤ x ∧ x ≤ 4294967295)
  | [], pre, hp => by simp [ghGood, hp]
  | x :: s, pre, hp => by
    rw [ghGood]
    by_cases hn : 0 ≤ x ∧ x ≤ 4294967295
    · rw [if_pos hn]
      by_cases hm : x ∈ pre
      · rw [if_pos hm]
        constructor
        · intro h; exact absurd h (by simp)
        · rintro ⟨h, _⟩
          rw [List.nodup_append] at h
          exact absurd rfl (h.2.2 x hm x (by simp))
      · rw [if_neg hm, ghGood_iff s (pre ++ [x]) (by rw [List.nodup_append]; exact ⟨hp, by simp, fun a ha b hb => by rw [List.mem_singleton.mp hb]; rintro rfl; exact hm ha⟩)]
        rw [List.append_assoc, List.singleton_append]
        constructor
        · rintro ⟨h1, h2⟩
          exact ⟨h1, fun y hy => by rcases List.mem_cons.mp hy with rfl | hy; exact hn; exact h2 y hy⟩
        · rintro ⟨h1, h2⟩
          exact ⟨h1, fun y hy => h2 y (by simp [hy])⟩
    · rw [if_neg hn]
      constructor
      · intro h; exact absurd h (by simp)
      · rintro ⟨_, h2⟩
        exact absurd (h2 x (by simp)) hn
theorem ghGood_ok {gh : List Int} (h : GhGood gh) : ghGood [] gh = true := (ghGood_iff gh [] (by simp)).mpr ⟨by simpa using h.nod, h.num⟩
theorem gh_filter {gh : List Int} (h : GhGood gh) (x : Int) : GhGood (gh.filter (fun y => y != x)) := ⟨h.nod.filter _, fun y hy => h.num y (List.mem_filter.mp hy).1⟩
theorem gh_put {gh : List Int} (h : GhGood gh) (x : Int) (hx : 0 ≤ x ∧ x ≤ 4294967295) : GhGood (gh.filter (fun y => y != x) ++ [x]) := by
  refine ⟨?_, fun y hy => ?_⟩
  · rw [List.nodup_append]
    refine ⟨h.nod.filter _, by simp, fun a ha b hb => ?_⟩
    rw [List.mem_singleton.mp hb]
    rintro rfl
    simpa using (List.mem_filter.mp ha).2
  · rcases List.mem_append.mp hy with hy | hy
    · exact h.num y (List.mem_filter.mp hy).1
    · rw [List.mem_singleton.mp hy]; exact hx
theorem gh_drop {gh : List Int} (h : GhGood gh) (n : Nat) : GhGood (gh.drop n) := ⟨h.nod.sublist (List.drop_sublist n gh), fun y hy => h.num y (List.mem_of_mem_drop hy)⟩
def ghMax (cp mo : Int) : Int := mx 1 (wrap64 (cp - mo))
theorem ghostPut_good {cp mo : Int} {gh : List Int} (h : GhGood gh) (hl : (gh.length : Int) ≤ ghMax cp mo) (x : Int) (hx : 0 ≤ x ∧ x ≤ 4294967295) : GhGood (ghostPut cp mo gh x) ∧ ((ghostPut cp mo gh x).length : Int) ≤ ghMax cp mo := by
  unfold ghostPut
  have h1 := List.length_filter_le (fun y => y != x) gh
  split
  · rename_i hc
    refine ⟨gh_drop (gh_put h x hx) 1, ?_⟩
    rw [List.length_drop, List.length_append]
    simp; omega
  · rename_i hc
    exact ⟨gh_put h x hx, by unfold ghMax; omega⟩
def keysT (xs : List S120) : List ByteArray := xs.map (·.f0)
structure ThGood (cp mo : Int) (s m : List S120) (gh : List Int) : Prop where
  cp1 : 1 ≤ cp
  cp60 : cp ≤ 60
  mo1 : 1 ≤ mo
  mocp : mo ≤ cp
  len : (s.length : Int) + (m.length : Int) ≤ cp
  nod : (keysT (s ++ m)).Nodup
  items : ∀ x ∈ s ++ m, ItemGood 3 x
  ghg : GhGood gh
  ghl : (gh.length : Int) ≤ ghMax cp mo
theorem gmax_le {cp mo : Int} (h1 : 1 ≤ mo) (h2 : mo ≤ cp) (h3 : cp ≤ 60) : ghMax cp mo ≤ 60 := by unfold ghMax mx wrap64; split <;> omega
theorem ThGood.small {cp mo : Int} {s m : List S120} {gh : List Int} (h : ThGood cp mo s m gh) : s.length ≤ 60 ∧ m.length ≤ 60 ∧ gh.length ≤ 60 := by
  have h1 := h.len; have h2 := h.cp60; have h3 := h.ghl; have h4 := gmax_le h.mo1 h.mocp h.cp60
  omega
theorem threeok_ok {cp mo : Int} {s m : List S120} {gh : List Int} (h : ThGood cp mo s m gh) : Ev (fun k => impl_ThreeOk.f k cp mo s m gh) true := by
  unfold impl_ThreeOk.f
  obtain ⟨h1, h2, h3⟩ := h.small
  have hg := h.ghl
  unfold ghMax at hg
  simp only [if_pos (show s.length < 1000000 ∧ m.length < 1000000 ∧ gh.length < 1000000 by omega), if_pos (And.intro h.cp1 h.cp60), if_pos (And.intro h.mo1 h.mocp), if_neg (show ¬ (gh.length : Int) > mx 1 (wrap64 (cp - mo)) by omega), ghGood_ok h.ghg, if_true, if_pos (show ((s ++ m).length : Int) ≤ cp by rw [List.length_append]; have := h.len; omega)]
  exact areItems_ok (s ++ m) (by rw [List.length_append]; omega) h.nod h.items
theorem thnew_ok {cp mo : Int} (h1 : 1 ≤ cp) (h2 : cp ≤ 60) (h3 : 1 ≤ mo) (h4 : mo ≤ cp) : ThGood cp mo [] [] [] := ⟨h1, h2, h3, h4, by simp; omega, by simp [keysT], by simp, ⟨by simp, by simp⟩, by unfold ghMax mx; split <;> simp <;> omega⟩
theorem threenew_ok {cp mo : Int} (h1 : 1 ≤ cp) (h2 : cp ≤ 60) (h3 : 1 ≤ mo) (h4 : mo ≤ cp) : Ev (fun k => impl_ThreeNew.f k cp mo) (cp, mo, [], [], [], true) := by
  unfold impl_ThreeNew.f
  refine Ev.bind (threeok_ok (thnew_ok h1 h2 h3 h4)) ?_
  simp only [if_true]
  exact Ev.some
theorem goSmall_ok (cp mo : Int) : ∀ (s m : List S120) (gh : List Int), (∀ x ∈ s ++ m, ItemGood 3 x) → GhGood gh → (gh.length : Int) ≤ ghMax cp mo →
    ∃ s' m' gh' key ok, Ev (fun k => goSmall k cp mo s m gh) (s', m', gh', key, ok) ∧ (∀ x ∈ s' ++ m', ItemGood 3 x) ∧ GhGood gh' ∧ (gh'.length : Int) ≤ ghMax cp mo ∧
      (ok = true → (keysT (s ++ m)).Perm (key :: keysT (s' ++ m')) ∧ KeyOk key) ∧ (ok = false → s' = [] ∧ (keysT (s ++ m)).Perm (keysT m'))
  | [], m, gh, hi, hg, hl => ⟨[], m, gh, ⟨#[]⟩, false, Ev.cong Ev.some (fun k => by rw [goSmall]), by simpa using hi, hg, hl, by simp, fun _ => ⟨rfl, by simp⟩⟩
  | x :: t, m, gh, hi, hg, hl => by
    by_cases c : x.f2 > 1
    · have hx := hi x (by simp)
      obtain ⟨s', m', gh', key, ok, e, h1, h2, h3, h4, h5⟩ := goSmall_ok cp mo t (m ++ [⟨x.f0, x.f1, 0⟩]) gh (fun y hy => by
        rcases List.mem_append.mp hy with hy | hy
        · exact hi y (by simp [hy])
        · rcases List.mem_append.mp hy with hy | hy
          · exact hi y (by simp [hy])
          · rw [List.mem_singleton.mp hy]; exact ⟨hx.1, hx.2.1, by simp, by simp⟩) hg hl
      have hp : (keysT (x :: t ++ m)).Perm (keysT (t ++ (m ++ [⟨x.f0, x.f1, 0⟩]))) := by
        simp only [keysT, List.map_append, List.map_cons, List.map_nil, List.cons_append]
        rw [← List.append_assoc]
        exact (List.perm_append_singleton _ _).symm
      refine ⟨s', m', gh', key, ok, Ev.cong e (fun k => by rw [goSmall, if_pos c]), h1, h2, h3, fun ho => ⟨hp.trans (h4 ho).1, (h4 ho).2⟩, fun ho => ⟨(h5 ho).1, hp.trans (h5 ho).2⟩⟩
    · have hx := hi x (by simp)
      obtain ⟨hh, e, h0, h1⟩ := hash_ok x.f0 (by have := hx.1.2.1; omega)
      obtain ⟨g1, g2⟩ := ghostPut_good hg hl hh ⟨h0, h1⟩
      refine ⟨t, m, ghostPut cp mo gh hh, x.f0, true, ?_, fun y hy => hi y (by simp only [List.cons_append, List.mem_cons]; exact .inr hy), g1, g2, fun _ => ⟨by simp [keysT], hx.1⟩, by simp⟩
      have : ∀ k, goSmall k cp mo (x :: t) m gh = (impl_Hash.f k x.f0).bind fun h => some (t, m, ghostPut cp mo gh h, x.f0, true) := fun k => by rw [goSmall, if_neg c]
      refine Ev.cong (Ev.bind e ?_) this
      exact Ev.some
def freqs (m : List S120) : Nat := (m.map (fun x => x.f2.toNat)).sum
theorem freqs_snoc (t : List S120) (y : S120) : freqs (t ++ [y]) = freqs t + y.f2.toNat := by simp [freqs]
theorem goMain_ok : ∀ (n : Nat) (m : List S120), m ≠ [] → (∀ x ∈ m, ItemGood 3 x) → freqs m < n → ∃ m' key, goMain n m = some (m', key, true) ∧ (∀ x ∈ m', ItemGood 3 x) ∧ (keysT m).Perm (key :: keysT m') ∧ KeyOk key := by
  intro n
  induction n with
  | zero => intro m _ _ h; omega
  | succ n ih =>
    intro m h0 hi hf
    cases m with
    | nil => exact absurd rfl h0
    | cons x t =>
      have hx := hi x (by simp)
      by_cases c : x.f2 = 0
      · exact ⟨t, x.f0, by rw [goMain, if_pos c], fun y hy => hi y (by simp [hy]), by simp [keysT], hx.1⟩
      · have h3 := hx.2.2
        have hw : wrap64 (x.f2 - 1) = x.f2 - 1 := wrap64_in _ (by omega)
        obtain ⟨m', key, e, h1, h2, h4⟩ := ih (t ++ [⟨x.f0, x.f1, x.f2 - 1⟩]) (by simp) (fun y hy => by
          rcases List.mem_append.mp hy with hy | hy
          · exact hi y (by simp [hy])
          · rw [List.mem_singleton.mp hy]; exact ⟨hx.1, hx.2.1, by show 0 ≤ x.f2 - 1; omega, by show x.f2 - 1 ≤ 3; omega⟩) (by
            rw [freqs_snoc]
            have : freqs (x :: t) = x.f2.toNat + freqs t := by simp [freqs]
            show freqs t + (x.f2 - 1).toNat < n
            omega)
        refine ⟨m', key, by rw [goMain, if_neg c, hw]; exact e, h1, List.Perm.trans ?_ h2, h4⟩
        simp only [keysT, List.map_append, List.map_cons, List.map_nil]
        exact (List.perm_append_singleton _ _).symm
theorem goMain_ev (m : List S120) (h0 : m ≠ []) (hi : ∀ x ∈ m, ItemGood 3 x) : ∃ m' key, Ev (fun k => goMain k m) (m', key, true) ∧ (∀ x ∈ m', ItemGood 3 x) ∧ (keysT m).Perm (key :: keysT m') ∧ KeyOk key := by
  obtain ⟨m', key, e, h1, h2, h3⟩ := goMain_ok (freqs m + 1) m h0 hi (by omega)
  refine ⟨m', key, ⟨freqs m + 1, fun k hk => ?_⟩, h1, h2, h3⟩
  exact at_rounds (g := fun k => goMain k m) (fun k => goMain_mono k m) hk e
theorem goEvict_ok {cp mo : Int} {s m : List S120} {gh : List Int} (hi : ∀ x ∈ s ++ m, ItemGood 3 x) (hg : GhGood gh) (hl : (gh.length : Int) ≤ ghMax cp mo) (h0 : s ++ m ≠ []) (hmo : 1 ≤ mo) :
    ∃ s' m' gh' key, Ev (fun k => goEvict k cp mo s m gh) (s', m', gh', key, true) ∧ (∀ x ∈ s' ++ m', ItemGood 3 x) ∧ GhGood gh' ∧ (gh'.length : Int) ≤ ghMax cp mo ∧ (keysT (s ++ m)).Perm (key :: keysT (s' ++ m')) ∧ KeyOk key := by
  unfold goEvict
  by_cases c : (s.length : Int) ≥ mo ∨ m.length = 0
  · simp only [if_pos c]
    obtain ⟨s', m', gh', key, ok, e, h1, h2, h3, h4, h5⟩ := goSmall_ok cp mo s m gh hi hg hl
    cases ok with
    | true =>
      refine ⟨s', m', gh', key, ?_, h1, h2, h3, (h4 rfl).1, (h4 rfl).2⟩
      refine Ev.bind e ?_
      simp only [if_true]
      exact Ev.some
    | false =>
      obtain ⟨rfl, hp⟩ := h5 rfl
      have hne : m' ≠ [] := by
        rintro rfl
        have := hp.length_eq
        simp [keysT] at this
        exact h0 (by simp [this.1, this.2])
      obtain ⟨m2, key2, e2, g1, g2, g3⟩ := goMain_ev m' hne (by simpa using h1)
      refine ⟨[], m2, gh', key2, ?_, by simpa using g1, h2, h3, by simpa using hp.trans g2, g3⟩
      refine Ev.bind e ?_
      simp only [Bool.false_eq_true, if_false]
      refine Ev.bind e2 ?_
      exact Ev.some
  · simp only [if_neg c]
    have hne : m ≠ [] := by rintro rfl; exact c (.inr rfl)
    obtain ⟨m2, key2, e2, g1, g2, g3⟩ := goMain_ev m hne (fun x hx => hi x (by simp [hx]))
    refine ⟨s, m2, gh, key2, ?_, fun x hx => ?_, hg, hl, ?_, g3⟩
    · refine Ev.bind e2 ?_
      exact Ev.some
    · rcases List.mem_append.mp hx with hx | hx
      · exact hi x (by simp [hx])
      · exact g1 x hx
    · simp only [keysT, List.map_append] at g2 ⊢
      exact ((List.Perm.append_left _ g2).trans List.perm_middle)
end Go.Proofs.Ytkaahabgbngodaa.Pure
end

section
namespace Go.Proofs.Ytkaahabgbngodaa.Pure
open Go.RowKit Go.Proofs.Ytkaahabgbngodaa.Core Go.Proofs.YtkaahabgbngodaaW.PrintWords Go.Proofs.YtkaahabgbngodaaW.PrintLast Go.IntWalk
set_option linter.unusedSimpArgs false
set_option linter.unusedVariables false
structure StepK (cp : Int) (K : List ByteArray) (x : ByteArray) (K1 : List ByteArray) (h : Bool) (g : Int) : Prop where
  nod : K1.Nodup
  len : (K1.length : Int) ≤ cp
  mem : x ∈ K1
  sub : ∀ y ∈ K1, y = x ∨ y ∈ K
  hit : h = decide (x ∈ K)
  gone : g = (K.length : Int) + (if x ∈ K then 0 else 1) - K1.length
  g0 : 0 ≤ g
  g1 : g ≤ 1
structure Mach (cp : Int) where
  σ : Type
  step : σ → ByteArray → σ × Bool × Int
  keys : σ → List ByteArray
  init : σ
  Good : σ → Prop
  good0 : Good init
  keys0 : keys init = []
  next : ∀ s x, Good s → KeyOk x → Good (step s x).1 ∧ StepK cp (keys s) x (keys (step s x).1) (step s x).2.1 (step s x).2.2
def Mach.run {cp : Int} (M : Mach cp) : M.σ → List ByteArray → M.σ × List Bool × Int
  | s, [] => (s, [], 0)
  | s, x :: l => ((M.run (M.step s x).1 l).1, (M.step s x).2.1 :: (M.run (M.step s x).1 l).2.1, (M.step s x).2.2 + (M.run (M.step s x).1 l).2.2)
theorem Mach.run_good {cp : Int} (M : Mach cp) : ∀ (l : List ByteArray) (s : M.σ), M.Good s → (∀ x ∈ l, KeyOk x) → M.Good (M.run s l).1
  | [], _, h, _ => h
  | x :: l, s, h, hk => M.run_good l _ (M.next s x h (hk x (by simp))).1 (fun y hy => hk y (by simp [hy]))
theorem Mach.run_length {cp : Int} (M : Mach cp) : ∀ (l : List ByteArray) (s : M.σ), (M.run s l).2.1.length = l.length
  | [], _ => rfl
  | x :: l, s => by simp [Mach.run, M.run_length l]
structure Tells (kd cp mo : Int) (M : Mach cp) : Prop where
  setup : Ev (fun k => impl_SetupOk.f k kd cp mo) true
  holds : ∀ l : List ByteArray, l.length ≤ 300 → (∀ x ∈ l, KeyOk x) → Ev (fun k => impl_Holds.f k kd cp mo l) (M.keys (M.run M.init l).1)
  hits : ∀ l : List ByteArray, l.length ≤ 300 → (∀ x ∈ l, KeyOk x) → Ev (fun k => impl_HitsOf.f k kd cp mo l) (M.run M.init l).2.1
  count : ∀ l : List ByteArray, l.length ≤ 300 → (∀ x ∈ l, KeyOk x) → Ev (fun k => impl_CountOf.f k kd cp mo l) ((l.length : Int), ((M.run M.init l).2.1.count true : Int), (l.length : Int) - ((M.run M.init l).2.1.count true : Int), (M.run M.init l).2.2)
theorem rowM_sub {kd cp : Int} {xs : List S120} {key : ByteArray} (h : RowGood kd cp xs) (y : ByteArray) (hy : y ∈ (askM kd cp xs key).1.map (·.f0)) : y = key ∨ y ∈ xs.map (·.f0) := by
  unfold askM at hy
  by_cases c : key ∈ xs.map (·.f0)
  · obtain ⟨i, hi, e, _⟩ := ixOf_some c
    rw [if_neg (by omega), e] at hy
    exact .inr ((asked_good h i hi).2.mem_iff.mp (by simpa using hy))
  · have e := ixOf_none c
    rw [if_pos (by omega)] at hy
    by_cases cf : (xs.length : Int) = cp
    · rw [if_pos cf] at hy
      have hne : xs ≠ [] := by rintro rfl; have := h.cp1; simp at cf; omega
      obtain ⟨_, h1, h2, h3⟩ := spinM_ok (top_le kd).2 hne h.items
      simp only [List.map_append, List.map_cons, List.map_nil, List.mem_append, List.mem_cons, List.not_mem_nil, or_false] at hy
      rcases hy with hy | hy
      · exact .inr (h2.mem_iff.mp (((List.tail_sublist _).map _).subset hy))
      · exact .inl hy
    · rw [if_neg cf] at hy
      simp only [List.map_append, List.map_cons, List.map_nil, List.mem_append, List.mem_cons, List.not_mem_nil, or_false] at hy
      rcases hy with hy | hy
      · exact .inr hy
      · exact .inl hy
theorem rowM_step {kd cp : Int} {xs : List S120} {key : ByteArray} (h : RowGood kd cp xs) (hk : KeyOk key) : StepK cp (xs.map (·.f0)) key ((askM kd cp xs key).1.map (·.f0)) (askM kd cp xs key).2.1 (askM kd cp xs key).2.2 := by
  have g := ask_good h hk
  have g01 := gone_01 kd cp xs key
  refine ⟨g.nod, by simpa using g.len, ?_, rowM_sub h, ?_, ?_, g01.1, g01.2⟩
  · unfold askM
    by_cases c : key ∈ xs.map (·.f0)
    · obtain ⟨i, hi, e, _⟩ := ixOf_some c
      rw [if_neg (by omega), e]
      exact (asked_good h i hi).2.mem_iff.mpr c
    · rw [if_pos (by rw [ixOf_none c]; omega)]
      split <;> simp [NEW]
  · unfold askM
    by_cases c : key ∈ xs.map (·.f0)
    · obtain ⟨i, hi, e, _⟩ := ixOf_some c
      rw [if_neg (by omega), decide_eq_true c]
    · rw [if_pos (by rw [ixOf_none c]; omega), decide_eq_false c]
      split <;> rfl
  · unfold askM
    by_cases c : key ∈ xs.map (·.f0)
    · obtain ⟨i, hi, e, _⟩ := ixOf_some c
      rw [if_neg (by omega), e, if_pos c]
      have := (asked_good h i hi).2.length_eq
      simp at this ⊢
      omega
    · rw [if_pos (by rw [ixOf_none c]; omega), if_neg c]
      by_cases cf : (xs.length : Int) = cp
      · rw [if_pos cf]
        have hne : xs ≠ [] := by rintro rfl; have := h.cp1; simp at cf; omega
        obtain ⟨_, h1, h2, h3⟩ := spinM_ok (top_le kd).2 hne h.items
        have hl := h2.length_eq
        have : 0 < (spinM xs).length := List.length_pos_iff.mpr h1
        simp at hl ⊢
        omega
      · rw [if_neg cf]
        simp
        try omega
def rowM (kd cp : Int) (g : RowGood kd cp []) : Mach cp where
  σ := List S120
  step := askM kd cp
  keys := fun xs => xs.map (·.f0)
  init := []
  Good := RowGood kd cp
  good0 := g
  keys0 := rfl
  next := fun s x h hk => ⟨ask_good h hk, rowM_step h hk⟩
theorem rowM_run {kd cp : Int} (g : RowGood kd cp []) : ∀ (l : List ByteArray) (xs : List S120), (rowM kd cp g).run xs l = runM kd cp xs l
  | [], _ => rfl
  | x :: l, xs => by
    rw [runM, ← rowM_run g l]
    rfl
theorem row_tells {kd cp : Int} (h1 : 1 ≤ kd) (h3 : kd ≤ 3) (c1 : 1 ≤ cp) (c60 : cp ≤ 60) : ∃ M : Mach cp, Tells kd cp 0 M := by
  have g := (rownew_ok h1 h3 c1 c60).2
  refine ⟨rowM kd cp g, setup_ok h1 h3 c1 c60, fun l hl hk => ?_, fun l hl hk => ?_, fun l hl hk => ?_⟩
  · have := holds_ok l h1 h3 c1 c60 hl hk
    have e := rowM_run g l []
    show Ev _ (List.map (·.f0) ((rowM kd cp g).run ([] : List S120) l).1)
    rw [e]; exact this
  · have := hits_ok l h1 h3 c1 c60 hl hk
    have e := rowM_run g l []
    show Ev _ ((rowM kd cp g).run ([] : List S120) l).2.1
    rw [e]; exact this
  · have := count_ok l h1 h3 c1 c60 hl hk
    have e := rowM_run g l []
    show Ev _ (_, (((rowM kd cp g).run ([] : List S120) l).2.1.count true : Int), _ - (((rowM kd cp g).run ([] : List S120) l).2.1.count true : Int), ((rowM kd cp g).run ([] : List S120) l).2.2)
    rw [e]; exact this
theorem set_keys (xs : List S120) (i : Nat) (hi : i < xs.length) (v : ByteArray) (f : Int) : keysT (xs.set i ⟨xs[i].f0, v, f⟩) = keysT xs := by
  unfold keysT
  rw [List.map_set]
  have : xs[i].f0 = (xs.map (·.f0))[i]'(by simpa using hi) := by simp
  show (xs.map (·.f0)).set i xs[i].f0 = _
  rw [this, List.set_getElem_self]
theorem keysT_app (a b : List S120) : keysT (a ++ b) = keysT a ++ keysT b := by simp [keysT]
theorem bump_good {x : S120} (h : ItemGood 3 x) : ItemGood 3 (bump x) := by
  have h3 := h.2.2
  have hw : wrap64 (x.f2 + 1) = x.f2 + 1 := wrap64_in _ (by omega)
  refine ⟨h.1, h.2.1, ?_, ?_⟩ <;> (show _ ; simp only [bump, hw]; unfold mn; split <;> omega)
theorem mem_set_good {xs : List S120} {i : Nat} {y : S120} (h : ∀ x ∈ xs, ItemGood 3 x) (hy : ItemGood 3 y) : ∀ x ∈ xs.set i y, ItemGood 3 x := by
  intro x hx
  rcases List.mem_or_eq_of_mem_set hx with hx | rfl
  · exact h x hx
  · exact hy
theorem evLoop_ok {cp mo : Int} {s m : List S120} {gh : List Int} (h : ThGood cp mo s m gh) : ∃ s' m' gh' gone, Ev (fun k => evLoop k cp mo 3 s m gh []) (s', m', gh', gone) ∧ (∀ x ∈ s' ++ m', ItemGood 3 x) ∧ GhGood gh' ∧ (gh'.length : Int) ≤ ghMax cp mo ∧ (s'.length : Int) + (m'.length : Int) + 1 ≤ cp ∧ (keysT (s ++ m)).Perm (gone ++ keysT (s' ++ m')) ∧ gone.length ≤ 1 := by
  have hl := h.len
  have h1 := h.cp1
  by_cases c : cp ≤ (s.length : Int) + (m.length : Int)
  · have hne : s ++ m ≠ [] := by intro he; have : (s ++ m).length = 0 := by rw [he]; rfl
                                 rw [List.length_append] at this; omega
    obtain ⟨s', m', gh', key, e, g1, g2, g3, g4, g5⟩ := goEvict_ok h.items h.ghg h.ghl hne h.mo1
    have hlen := g4.length_eq
    simp only [keysT, List.length_map, List.length_append, List.length_cons] at hlen
    refine ⟨s', m', gh', [key], ?_, g1, g2, g3, by omega, g4, by simp⟩
    have hc : ∀ k, evLoop k cp mo 3 s m gh [] = (goEvict k cp mo s m gh).bind fun r => evLoop k cp mo 2 r.1 r.2.1 r.2.2.1 ([] ++ [r.2.2.2.1]) := fun k => by rw [evLoop, if_pos c]
    refine Ev.cong (Ev.bind e ?_) hc
    refine Ev.cong Ev.some (fun k => ?_)
    rw [evLoop, if_neg (show ¬ cp ≤ (s'.length : Int) + (m'.length : Int) by omega)]
    rfl
  · exact ⟨s, m, gh, [], Ev.cong Ev.some (fun k => by rw [evLoop, if_neg c]), h.items, h.ghg, h.ghl, by omega, by simp, by simp⟩
theorem askTh_ok {cp mo : Int} {s m : List S120} {gh : List Int} {key : ByteArray} (h : ThGood cp mo s m gh) (hk : KeyOk key) :
    ∃ s' m' gh' b g, Ev (fun k => askTh k cp mo s m gh key) (cp, mo, s', m', gh', b, g) ∧ ThGood cp mo s' m' gh' ∧ StepK cp (keysT (s ++ m)) key (keysT (s' ++ m')) b g := by
  have hcp : 0 < cp := by have := h.cp1; omega
  unfold askTh
  simp only [if_pos hcp]
  have hl : ((keysT (s ++ m)).length : Int) ≤ cp := by have := h.len; simp [keysT]; exact this
  have hs : ∀ x ∈ s, ItemGood 3 x := fun x hx => h.items x (by simp [hx])
  have hm : ∀ x ∈ m, ItemGood 3 x := fun x hx => h.items x (by simp [hx])
  by_cases cs : key ∈ s.map (·.f0)
  · obtain ⟨i, hi, e, ek⟩ := ixOf_some cs
    have hke : keysT (s.set i (bump s[i]) ++ m) = keysT (s ++ m) := by rw [keysT_app, keysT_app]; unfold bump; rw [set_keys]
    have hmem : key ∈ keysT (s ++ m) := by rw [keysT_app]; exact List.mem_append_left _ cs
    refine ⟨s.set i (bump s[i]), m, gh, true, 0, ?_, ⟨h.cp1, h.cp60, h.mo1, h.mocp, by simpa using h.len, by rw [hke]; exact h.nod, fun x hx => ?_, h.ghg, h.ghl⟩, ?_⟩
    · refine Ev.bind (a := (cp, mo, s.set i (bump s[i]), m, gh, s[i].f1, true)) ?_ ?_
      · unfold impl_Get.f
        refine Ev.bind (threeok_ok h) ?_
        simp only [if_true, if_pos (show 0 ≤ ixOf s key by omega)]
        rw [e, rdT s i hi, Int.toNat_natCast]
        exact Ev.some
      · simp only [if_true]; exact Ev.some
    · rcases List.mem_append.mp hx with hx | hx
      · exact mem_set_good hs (bump_good (hs _ (List.getElem_mem hi))) x hx
      · exact hm x hx
    · rw [hke]
      exact ⟨h.nod, hl, hmem, fun y hy => .inr hy, (decide_eq_true hmem).symm, by rw [if_pos hmem]; omega, by omega, by omega⟩
  · have es := ixOf_none cs
    have ns : ¬ 0 ≤ ixOf s key := by omega
    by_cases cm : key ∈ m.map (·.f0)
    · obtain ⟨i, hi, e, ek⟩ := ixOf_some cm
      have hke : keysT (s ++ m.set i (bump m[i])) = keysT (s ++ m) := by rw [keysT_app, keysT_app]; unfold bump; rw [set_keys]
      have hmem : key ∈ keysT (s ++ m) := by rw [keysT_app]; exact List.mem_append_right _ cm
      refine ⟨s, m.set i (bump m[i]), gh, true, 0, ?_, ⟨h.cp1, h.cp60, h.mo1, h.mocp, by simpa using h.len, by rw [hke]; exact h.nod, fun x hx => ?_, h.ghg, h.ghl⟩, ?_⟩
      · refine Ev.bind (a := (cp, mo, s, m.set i (bump m[i]), gh, m[i].f1, true)) ?_ ?_
        · unfold impl_Get.f
          refine Ev.bind (threeok_ok h) ?_
          simp only [if_true, if_neg ns, if_pos (show 0 ≤ ixOf m key by omega)]
          rw [e, rdT m i hi, Int.toNat_natCast]
          exact Ev.some
        · simp only [if_true]; exact Ev.some
      · rcases List.mem_append.mp hx with hx | hx
        · exact hs x hx
        · exact mem_set_good hm (bump_good (hm _ (List.getElem_mem hi))) x hx
      · rw [hke]
        exact ⟨h.nod, hl, hmem, fun y hy => .inr hy, (decide_eq_true hmem).symm, by rw [if_pos hmem]; omega, by omega, by omega⟩
    · have em := ixOf_none cm
      have nm : ¬ 0 ≤ ixOf m key := by omega
      have hmem : key ∉ keysT (s ++ m) := by rw [keysT_app]; intro he; rcases List.mem_append.mp he with he | he; exact cs he; exact cm he
      obtain ⟨s', m', gh', gone, ev, g1, g2, g3, g4, g5, g6⟩ := evLoop_ok h
      obtain ⟨hh, eh, h0, h1⟩ := hash_ok key (by have := hk.2.1; omega)
      have new : ItemGood 3 ⟨key, ⟨#[]⟩, 0⟩ := ⟨hk, val_empty, by simp, by simp⟩
      have hn' : (keysT (s' ++ m')).Nodup := by
        have := g5.nodup_iff.mp h.nod
        rw [List.nodup_append] at this
        exact this.2.1
      have hk' : key ∉ keysT (s' ++ m') := fun he => hmem (g5.mem_iff.mpr (List.mem_append_right _ he))
      have hlen := g5.length_eq
      rw [List.length_append] at hlen
      have hg : Ev (fun k => impl_Get.f k cp mo s m gh key) (cp, mo, s, m, gh, (⟨#[]⟩ : ByteArray), false) := by
        unfold impl_Get.f
        refine Ev.bind (threeok_ok h) ?_
        simp only [if_true, if_neg ns, if_neg nm]
        exact Ev.some
      have fin : ∀ (s2 m2 : List S120) (gh2 : List Int), (keysT (s2 ++ m2)).Perm (key :: keysT (s' ++ m')) → (∀ x ∈ s2 ++ m2, ItemGood 3 x) → GhGood gh2 → (gh2.length : Int) ≤ ghMax cp mo → ThGood cp mo s2 m2 gh2 ∧ StepK cp (keysT (s ++ m)) key (keysT (s2 ++ m2)) false (gone.length : Int) := by
        intro s2 m2 gh2 hp hi2 hg2 hl2
        have hl3 := hp.length_eq
        have hl4 : (keysT (s2 ++ m2)).length = s2.length + m2.length := by simp [keysT]
        have hl5 : (keysT (s' ++ m')).length = s'.length + m'.length := by simp [keysT]
        have hnod : (keysT (s2 ++ m2)).Nodup := hp.nodup_iff.mpr (List.nodup_cons.mpr ⟨hk', hn'⟩)
        rw [List.length_cons] at hl3
        refine ⟨⟨h.cp1, h.cp60, h.mo1, h.mocp, by omega, hnod, hi2, hg2, hl2⟩, ⟨hnod, by omega, hp.mem_iff.mpr (by simp), fun y hy => ?_, (decide_eq_false hmem).symm, by rw [if_neg hmem]; omega, by omega, by omega⟩⟩
        rcases List.mem_cons.mp (hp.mem_iff.mp hy) with hy | hy
        · exact .inl hy
        · exact .inr (g5.mem_iff.mpr (List.mem_append_right _ hy))
      have put : ∀ (s2 m2 : List S120) (gh2 : List Int), (if hh ∈ gh' then (cp, mo, s', m' ++ [(⟨key, ⟨#[]⟩, 0⟩ : S120)], gh'.filter (fun x => x != hh), gone, true) else (cp, mo, s' ++ [(⟨key, ⟨#[]⟩, 0⟩ : S120)], m', gh', gone, true)) = (cp, mo, s2, m2, gh2, gone, true) →
          Ev (fun k => (impl_Get.f k cp mo s m gh key).bind fun g => if g.2.2.2.2.2.2 = true then some (g.1, g.2.1, g.2.2.1, g.2.2.2.1, g.2.2.2.2.1, true, (0 : Int)) else (impl_Put.f k cp mo s m gh key (⟨#[]⟩ : ByteArray)).bind fun p => some (p.1, p.2.1, p.2.2.1, p.2.2.2.1, p.2.2.2.2.1, false, (p.2.2.2.2.2.1.length : Int))) (cp, mo, s2, m2, gh2, false, (gone.length : Int)) := by
        intro s2 m2 gh2 he
        refine Ev.bind hg ?_
        simp only [Bool.false_eq_true, if_false]
        refine Ev.bind (a := (cp, mo, s2, m2, gh2, gone, true)) ?_ Ev.some
        unfold impl_Put.f
        refine Ev.bind (threeok_ok h) ?_
        simp only [if_true]
        refine Ev.bind (item_ok key _ 0 hk val_empty (by omega) (by omega)) ?_
        simp only [if_true, if_neg ns, if_neg nm]
        refine Ev.bind ev ?_
        refine Ev.bind eh ?_
        refine Ev.eq (Ev.cong Ev.some (v := if hh ∈ gh' then (cp, mo, s', m' ++ [(⟨key, ⟨#[]⟩, 0⟩ : S120)], gh'.filter (fun x => x != hh), gone, true) else (cp, mo, s' ++ [(⟨key, ⟨#[]⟩, 0⟩ : S120)], m', gh', gone, true)) (fun k => ?_)) he
        dsimp only
        split <;> rfl
      by_cases cg : hh ∈ gh'
      · obtain ⟨f1, f2⟩ := fin s' (m' ++ [⟨key, ⟨#[]⟩, 0⟩]) (gh'.filter (fun x => x != hh)) (by
          rw [← List.append_assoc, keysT_app]
          exact List.perm_append_singleton _ _) (fun x hx => by
          rw [← List.append_assoc] at hx
          rcases List.mem_append.mp hx with hx | hx
          · exact g1 x hx
          · rw [List.mem_singleton.mp hx]; exact new) (gh_filter g2 hh) (by have := List.length_filter_le (fun x => x != hh) gh'; omega)
        exact ⟨_, _, _, _, _, put _ _ _ (by rw [if_pos cg]), f1, f2⟩
      · obtain ⟨f1, f2⟩ := fin (s' ++ [⟨key, ⟨#[]⟩, 0⟩]) m' gh' (by
          rw [List.append_assoc, keysT_app, keysT_app, keysT_app]
          exact List.perm_middle) (fun x hx => by
          rcases List.mem_append.mp hx with hx | hx
          · rcases List.mem_append.mp hx with hx | hx
            · exact g1 x (List.mem_append_left _ hx)
            · rw [List.mem_singleton.mp hx]; exact new
          · exact g1 x (List.mem_append_right _ hx)) g2 g3
        exact ⟨_, _, _, _, _, put _ _ _ (by rw [if_neg cg]), f1, f2⟩
abbrev T3 : Type := List S120 × List S120 × List Int
def StepT (cp mo : Int) (t : T3) (x : ByteArray) (r : T3 × Bool × Int) : Prop := Ev (fun k => askTh k cp mo t.1 t.2.1 t.2.2 x) (cp, mo, r.1.1, r.1.2.1, r.1.2.2, r.2.1, r.2.2) ∧ ThGood cp mo r.1.1 r.1.2.1 r.1.2.2 ∧ StepK cp (keysT (t.1 ++ t.2.1)) x (keysT (r.1.1 ++ r.1.2.1)) r.2.1 r.2.2
open Classical in
noncomputable def stepT (cp mo : Int) (t : T3) (x : ByteArray) : T3 × Bool × Int := if h : ∃ r, StepT cp mo t x r then h.choose else (t, false, 0)
theorem stepT_ok {cp mo : Int} {t : T3} {x : ByteArray} (h : ThGood cp mo t.1 t.2.1 t.2.2) (hk : KeyOk x) : StepT cp mo t x (stepT cp mo t x) := by
  have hx : ∃ r, StepT cp mo t x r := by
    obtain ⟨s', m', gh', b, g, e, h1, h2⟩ := askTh_ok h hk
    exact ⟨((s', m', gh'), b, g), e, h1, h2⟩
  unfold stepT
  rw [dif_pos hx]
  exact hx.choose_spec
noncomputable def thM (cp mo : Int) (g : ThGood cp mo [] [] []) : Mach cp where
  σ := T3
  step := stepT cp mo
  keys := fun t => keysT (t.1 ++ t.2.1)
  init := ([], [], [])
  Good := fun t => ThGood cp mo t.1 t.2.1 t.2.2
  good0 := g
  keys0 := rfl
  next := fun s x h hk => ⟨(stepT_ok h hk).2.1, (stepT_ok h hk).2.2⟩
theorem askGoT_ok {cp mo : Int} (g0 : ThGood cp mo [] [] []) (l : List ByteArray) (hl : l.length ≤ 1000) (hk : ∀ x ∈ l, KeyOk x) : ∀ (s pre : List ByteArray) (t : T3) (hs : List Bool) (gn : Int), l = pre ++ s → ThGood cp mo t.1 t.2.1 t.2.2 → hs.length = pre.length → 0 ≤ gn → gn ≤ pre.length →
    ∃ k0, ∀ k, k0 ≤ k → ∀ n, s.length < n → askGoT k l n (pre.length : Int) cp mo t.1 t.2.1 t.2.2 hs gn = some (cp, mo, ((thM cp mo g0).run t s).1.1, ((thM cp mo g0).run t s).1.2.1, ((thM cp mo g0).run t s).1.2.2, hs ++ ((thM cp mo g0).run t s).2.1, gn + ((thM cp mo g0).run t s).2.2) := by
  intro s
  induction s with
  | nil =>
    intro pre t hs gn h hg hh h0 h1
    refine ⟨0, fun k _ n hn => ?_⟩
    cases n with
    | zero => exact absurd hn (by simp)
    | succ n =>
      rw [askGoT, if_neg (show ¬ (pre.length : Int) < (l.length : Int) by rw [h]; simp)]
      simp [Mach.run]
  | cons x s ih =>
    intro pre t hs gn h hg hh h0 h1
    have hx : rdOf ByteArray.empty l (pre.length : Int) = x := by rw [h]; exact rdOf_mid _ _ _ _
    have hlt : (pre.length : Int) < (l.length : Int) := by rw [h]; simp; omega
    have hkx : KeyOk x := hk x (by rw [h]; simp)
    obtain ⟨st1, st2, st3⟩ := stepT_ok (x := x) hg hkx
    have h00 := st3.g0
    have h01 := st3.g1
    obtain ⟨k1, e1⟩ := st1
    have hw : wrap64 (gn + (stepT cp mo t x).2.2) = gn + (stepT cp mo t x).2.2 := wrap64_in _ (by omega)
    obtain ⟨k2, e2⟩ := ih (pre ++ [x]) (stepT cp mo t x).1 (hs ++ [(stepT cp mo t x).2.1]) (gn + (stepT cp mo t x).2.2) (by rw [h]; simp) st2 (by simp [hh]) (by omega) (by simp; omega)
    refine ⟨k1 + k2, fun k hk' n hn => ?_⟩
    cases n with
    | zero => exact absurd hn (by simp)
    | succ n =>
      have e3 : askTh k cp mo t.1 t.2.1 t.2.2 x = _ := e1 k (by omega)
      rw [askGoT, if_pos hlt, if_pos (by omega), hx, e3]
      show (if hs.length < 140737488355328 then askGoT k l n (wrap64 ((pre.length : Int) + 1)) cp mo (stepT cp mo t x).1.1 (stepT cp mo t x).1.2.1 (stepT cp mo t x).1.2.2 (hs ++ [(stepT cp mo t x).2.1]) (wrap64 (gn + (stepT cp mo t x).2.2)) else none) = _
      rw [if_pos (by omega), up' pre x (by omega), hw, e2 k (by omega) n (by simp at hn; omega)]
      have er : (thM cp mo g0).run t (x :: s) = (((thM cp mo g0).run (stepT cp mo t x).1 s).1, (stepT cp mo t x).2.1 :: ((thM cp mo g0).run (stepT cp mo t x).1 s).2.1, (stepT cp mo t x).2.2 + ((thM cp mo g0).run (stepT cp mo t x).1 s).2.2) := rfl
      rw [er]
      simp [Int.add_assoc]
theorem setT_ok {cp mo : Int} (g0 : ThGood cp mo [] [] []) (l : List ByteArray) (hl : l.length ≤ 300) (hk : ∀ x ∈ l, KeyOk x) :
    Ev (fun k => askSetT k 4 cp mo l) (some (cp, mo, ((thM cp mo g0).run ([], [], []) l).1.1, ((thM cp mo g0).run ([], [], []) l).1.2.1, ((thM cp mo g0).run ([], [], []) l).1.2.2, ((thM cp mo g0).run ([], [], []) l).2.1, ((thM cp mo g0).run ([], [], []) l).2.2)) := by
  have hn := threenew_ok g0.cp1 g0.cp60 g0.mo1 g0.mocp
  unfold askSetT
  refine Ev.bind (a := true) ?_ ?_
  · unfold impl_SetupOk.f
    simp only [if_true]
    refine Ev.bind hn ?_
    exact Ev.some
  · simp only [if_true]
    refine Ev.bind (asksok_ok l hl hk) ?_
    simp only [if_true]
    refine Ev.bind hn ?_
    dsimp only
    obtain ⟨k0, h⟩ := askGoT_ok g0 l (by omega) hk l [] ([], [], []) [] 0 (by simp) g0 rfl (by omega) (by simp)
    refine Ev.bind (a := (cp, mo, ((thM cp mo g0).run ([], [], []) l).1.1, ((thM cp mo g0).run ([], [], []) l).1.2.1, ((thM cp mo g0).run ([], [], []) l).1.2.2, ((thM cp mo g0).run ([], [], []) l).2.1, ((thM cp mo g0).run ([], [], []) l).2.2)) ?_ Ev.some
    refine ⟨k0 + l.length + 1, fun k hk' => ?_⟩
    have := h k (by omega) k (by omega)
    simpa using this
theorem three_tells {cp mo : Int} (h1 : 1 ≤ cp) (h2 : cp ≤ 60) (h3 : 1 ≤ mo) (h4 : mo ≤ cp) : ∃ M : Mach cp, Tells 4 cp mo M := by
  have g0 := thnew_ok h1 h2 h3 h4
  refine ⟨thM cp mo g0, ?_, fun l hl hk => ?_, fun l hl hk => ?_, fun l hl hk => ?_⟩
  · unfold impl_SetupOk.f
    simp only [if_true]
    refine Ev.bind (threenew_ok h1 h2 h3 h4) ?_
    exact Ev.some
  · have hg : ThGood cp mo _ _ _ := (thM cp mo g0).run_good l _ (thM cp mo g0).good0 hk
    obtain ⟨b1, b2, b3⟩ := hg.small
    unfold impl_Holds.f impl_Holds.fT
    simp only [if_true]
    refine Ev.bind (setT_ok g0 l hl hk) ?_
    refine Ev.cong Ev.some (fun k => ?_)
    exact if_pos ⟨by omega, Nat.lt_of_le_of_lt b1 (by omega), Nat.lt_of_le_of_lt b2 (by omega)⟩
  · unfold impl_HitsOf.f impl_HitsOf.fT
    simp only [if_true]
    refine Ev.bind (setT_ok g0 l hl hk) ?_
    exact Ev.some
  · unfold impl_CountOf.f impl_CountOf.fT
    simp only [if_true]
    refine Ev.bind (setT_ok g0 l hl hk) ?_
    dsimp only
    have hlen : ((thM cp mo g0).run ([], [], []) l).2.1.length = l.length := (thM cp mo g0).run_length l _
    refine Ev.bind (hitsIn_ok _ (by omega)) ?_
    refine Ev.eq Ev.some ?_
    have hc : ((thM cp mo g0).run ([], [], []) l).2.1.count true ≤ ((thM cp mo g0).run ([], [], []) l).2.1.length := List.count_le_length
    rw [wrap64_in _ (by omega)]
    rfl
end Go.Proofs.Ytkaahabgbngodaa.Pure
end

section
namespace Go.Proofs.Ytkaahabgbngodaa.Pure
open Go.RowKit Go.Proofs.Ytkaahabgbngodaa.Core Go.Proofs.YtkaahabgbngodaaW.PrintWords Go.Proofs.YtkaahabgbngodaaW.PrintLast Go.IntWalk
set_option linter.unusedSimpArgs false
set_option linter.unusedVariables false
theorem setup_of (b : List Int) (h : (b.length : Int) ≤ 1048576) : ∃ kd cp mo, Ev (fun k => spec_MakeSetup.f k b) (kd, cp, mo) ∧ 1 ≤ cp ∧ cp ≤ 5 ∧ ((1 ≤ kd ∧ kd ≤ 3 ∧ mo = 0) ∨ (kd = 4 ∧ 1 ≤ mo ∧ mo ≤ cp)) := by
  obtain ⟨s, hs⟩ := new_ok b h
  obtain ⟨r1, a1, s1, e1, h1, h2, hs1⟩ := below_ok b 0 (wrap64 (s + 23)) 4 ⟨h, by omega, by omega⟩ (by omega) (by omega)
  obtain ⟨r2, a2, s2, e2, h3, h4, hs2⟩ := below_ok b a1 s1 5 hs1 (by omega) (by omega)
  have w1 : wrap64 (1 + r1) = 1 + r1 := wrap64_in _ (by omega)
  have w2 : wrap64 (1 + r2) = 1 + r2 := wrap64_in _ (by omega)
  by_cases c : 1 + r1 = 4
  · obtain ⟨r3, a3, s3, e3, h5, h6, hs3⟩ := below_ok b a2 s2 (1 + r2) hs2 (by omega) (by omega)
    have w3 : wrap64 (1 + r3) = 1 + r3 := wrap64_in _ (by omega)
    refine ⟨1 + r1, 1 + r2, 1 + r3, ?_, by omega, by omega, .inr ⟨c, by omega, by omega⟩⟩
    unfold spec_MakeSetup.f
    refine Ev.bind hs ?_
    refine Ev.of (fun k => ?_)
    unfold spec_l12Setup.f
    simp only [e1, e2, Option.bind_some, w1, w2, if_pos c, e3, w3]
  · refine ⟨1 + r1, 1 + r2, 0, ?_, by omega, by omega, .inl ⟨by omega, by omega, rfl⟩⟩
    unfold spec_MakeSetup.f
    refine Ev.bind hs ?_
    refine Ev.of (fun k => ?_)
    unfold spec_l12Setup.f
    simp only [e1, e2, Option.bind_some, w1, w2, if_neg c]
theorem setup_mach (b : List Int) (h : (b.length : Int) ≤ 1048576) : ∃ kd cp mo, ∃ M : Mach cp, Ev (fun k => spec_MakeSetup.f k b) (kd, cp, mo) ∧ 1 ≤ cp ∧ cp ≤ 5 ∧ Tells kd cp mo M := by
  obtain ⟨kd, cp, mo, e, h1, h2, h3⟩ := setup_of b h
  rcases h3 with ⟨g1, g2, rfl⟩ | ⟨rfl, g1, g2⟩
  · obtain ⟨M, t⟩ := row_tells g1 g2 h1 (by omega)
    exact ⟨kd, cp, 0, M, e, h1, h2, t⟩
  · obtain ⟨M, t⟩ := three_tells h1 (by omega) g1 g2
    exact ⟨4, cp, mo, M, e, h1, h2, t⟩
end Go.Proofs.Ytkaahabgbngodaa.Pure
end

section
namespace Go.Proofs.Ytkaahabgbngodaa.Pure
open Go.RowKit Go.Proofs.Ytkaahabgbngodaa.Core Go.Proofs.YtkaahabgbngodaaW.PrintWords Go.Proofs.YtkaahabgbngodaaW.PrintLast Go.IntWalk
set_option linter.unusedSimpArgs false
set_option linter.unusedVariables false
set_option linter.unusedSectionVars false
section keys
variable {α : Type} [DecidableEq α]
def pos : List α → α → Nat
  | [], _ => 0
  | y :: s, x => if y = x then 0 else pos s x + 1
def farGo (rest : List α) : List α → Nat → Int → Int → Int
  | [], _, b, _ => b
  | y :: s, i, b, f => if (pos rest y : Int) > f then farGo rest s (i + 1) i (pos rest y) else farGo rest s (i + 1) b f
def farIdx (has rest : List α) : Nat := (farGo rest has 0 (-1) (-1)).toNat
def bestA (cp : Nat) : List α → List α → List Bool
  | _, [] => []
  | has, x :: rest => if x ∈ has then true :: bestA cp has rest else if has.length = cp then false :: bestA cp (has.eraseIdx (farIdx has rest) ++ [x]) rest else false :: bestA cp (has ++ [x]) rest
end keys
section maps
variable {α β : Type} [DecidableEq α] [DecidableEq β] (f : α → β) (hf : ∀ x y, f x = f y → x = y)
include hf
end maps
theorem next_ok (l : List ByteArray) (key : ByteArray) (hl : l.length ≤ 1000) : ∀ (s pre : List ByteArray), l = pre ++ s → Ev (fun k => impl_NextAsk.l0 k l key (pre.length : Int)) ((pre.length + pos s key : Nat) : Int) := by
  intro s
  induction s with
  | nil =>
    intro pre h
    refine Ev.succ ?_
    simp only [impl_NextAsk.l0, if_neg (show ¬ (pre.length : Int) < (l.length : Int) by rw [h]; simp)]
    refine Ev.eq Ev.some ?_
    rw [h]; simp [pos]
  | cons x s ih =>
    intro pre h
    have hx : rdOf ByteArray.empty l (pre.length : Int) = x := by rw [h]; exact rdOf_mid _ _ _ _
    have hlt : (pre.length : Int) < (l.length : Int) := by rw [h]; simp; omega
    refine Ev.succ ?_
    simp only [impl_NextAsk.l0, if_pos hlt, if_pos (show 0 ≤ (pre.length : Int) by omega), hx]
    rw [pos]
    by_cases c : x = key
    · simp only [if_pos c, if_pos (congrArg ByteArray.toList c)]
      exact Ev.eq Ev.some (by simp)
    · simp only [if_neg c, if_neg (fun he => c (bt_inj he)), up' pre x (by omega)]
      refine Ev.eq (ih (pre ++ [x]) (by rw [h]; simp)) ?_
      simp; omega
theorem nextask_ok (l : List ByteArray) (key : ByteArray) (hl : l.length ≤ 1000) (pre s : List ByteArray) (h : l = pre ++ s) : Ev (fun k => impl_NextAsk.f k l key (pre.length : Int)) ((pre.length + pos s key : Nat) : Int) := by
  unfold impl_NextAsk.f
  have : mx 0 (pre.length : Int) = (pre.length : Int) := by unfold mx; split <;> omega
  rw [this]
  exact next_ok l key hl s pre h
theorem farGo_in {α : Type} [DecidableEq α] (rest : List α) : ∀ (s : List α) (i : Nat) (b f : Int), farGo rest s i b f = b ∨ ((i : Int) ≤ farGo rest s i b f ∧ farGo rest s i b f < i + s.length)
  | [], _, _, _ => .inl rfl
  | y :: s, i, b, f => by
    rw [farGo]
    split
    · rcases farGo_in rest s (i + 1) i (pos rest y) with h | h
      · right; rw [h]; simp; omega
      · right; simp; omega
    · rcases farGo_in rest s (i + 1) b f with h | h
      · exact .inl h
      · right; simp; omega
theorem far_in {α : Type} [DecidableEq α] (has rest : List α) (h : has ≠ []) : 0 ≤ farGo rest has 0 (-1) (-1) ∧ farGo rest has 0 (-1) (-1) < has.length := by
  cases has with
  | nil => exact absurd rfl h
  | cons y s =>
    rw [farGo, if_pos (by omega)]
    rcases farGo_in rest s 1 0 (pos rest y) with h | h
    · simp at h ⊢; omega
    · simp at h ⊢; omega
theorem bestgo_loop (l : List ByteArray) (hl : l.length ≤ 1000) (pre rest : List ByteArray) (h : l = pre ++ rest) (has : List ByteArray) (hh : has.length ≤ 1000) : ∀ (s q : List ByteArray) (b f : Int), has = q ++ s → -1 ≤ f →
    Ev (fun k => impl_BestGo.l0 k l (pre.length : Int) b (if f = -1 then -1 else pre.length + f) has (has.length : Int) (q.length : Int)) (farGo rest s q.length b f) := by
  intro s
  induction s with
  | nil =>
    intro q b f hq hf
    refine Ev.succ ?_
    simp only [impl_BestGo.l0, if_neg (show ¬ (q.length : Int) < (has.length : Int) by rw [hq]; simp)]
    exact Ev.some
  | cons x s ih =>
    intro q b f hq hf
    have hx : rdOf ByteArray.empty has (q.length : Int) = x := by rw [hq]; exact rdOf_mid _ _ _ _
    have hlt : (q.length : Int) < (has.length : Int) := by rw [hq]; simp; omega
    refine Ev.succ ?_
    simp only [impl_BestGo.l0, if_pos hlt, if_pos (show 0 ≤ (q.length : Int) by omega), hx]
    refine Ev.bind (nextask_ok l x hl pre rest h) ?_
    rw [farGo]
    have hiff : (((pre.length + pos rest x : Nat) : Int) > (if f = -1 then -1 else (pre.length : Int) + f)) ↔ (pos rest x : Int) > f := by
      split
      · rename_i e; rw [e]; omega
      · omega
    by_cases c : (pos rest x : Int) > f
    · simp only [if_pos c, if_pos (hiff.mpr c), up' q x (by omega)]
      have := ih (q ++ [x]) q.length (pos rest x) (by rw [hq]; simp) (by omega)
      rw [if_neg (show ¬ ((pos rest x : Int) = -1) by omega)] at this
      simp only [List.length_append, List.length_cons, List.length_nil] at this ⊢
      refine Ev.cong this (fun k => ?_)
      congr 1
    · simp only [if_neg c, if_neg (fun he => c (hiff.mp he)), up' q x (by omega)]
      have := ih (q ++ [x]) b f (by rw [hq]; simp) hf
      simp only [List.length_append, List.length_cons, List.length_nil] at this ⊢
      exact this
theorem bestgo_ok (l : List ByteArray) (hl : l.length ≤ 1000) (pre rest : List ByteArray) (h : l = pre ++ rest) (has : List ByteArray) (hh : has.length ≤ 1000) (hne : has ≠ []) : Ev (fun k => impl_BestGo.f k l has (pre.length : Int)) ((farIdx has rest : Nat) : Int) := by
  unfold impl_BestGo.f
  have := bestgo_loop l hl pre rest h has hh has [] (-1) (-1) (by simp) (by omega)
  rw [if_pos rfl] at this
  refine Ev.eq this ?_
  have h2 := far_in has rest hne
  unfold farIdx
  simp at h2 ⊢
  omega
theorem best_loop (l : List ByteArray) (hl : l.length ≤ 300) (cp : Int) (c1 : 1 ≤ cp) (c60 : cp ≤ 60) : ∀ (s pre has : List ByteArray) (hs : List Bool), l = pre ++ s → (has.length : Int) ≤ cp → hs.length = pre.length →
    Ev (fun k => impl_BestHits.l0 k l cp hs has l (l.length : Int) (pre.length : Int)) (hs ++ bestA cp.toNat has s) := by
  intro s
  induction s with
  | nil =>
    intro pre has hs h hh hhs
    refine Ev.succ ?_
    simp only [impl_BestHits.l0, if_neg (show ¬ (pre.length : Int) < (l.length : Int) by rw [h]; simp)]
    exact Ev.eq Ev.some (by simp [bestA])
  | cons x s ih =>
    intro pre has hs h hh hhs
    have hx : rdOf ByteArray.empty l (pre.length : Int) = x := by rw [h]; exact rdOf_mid _ _ _ _
    have hlt : (pre.length : Int) < (l.length : Int) := by rw [h]; simp; omega
    refine Ev.succ ?_
    simp only [impl_BestHits.l0, if_pos hlt, if_pos (show 0 ≤ (pre.length : Int) by omega), hx]
    refine Ev.bind (contains_ok has x (by omega)) ?_
    simp only [if_pos (show hs.length < 140737488355328 by omega), Option.bind_some, up' pre x (by omega)]
    rw [bestA]
    by_cases c : x ∈ has
    · simp only [c, decide_true, if_true]
      refine Ev.eq (ih (pre ++ [x]) has (hs ++ [true]) (by rw [h]; simp) hh (by simp [hhs])) (by simp)
    · simp only [c, decide_false, if_false, Bool.false_eq_true]
      by_cases cf : (has.length : Int) = cp
      · have hne : has ≠ [] := by rintro rfl; simp at cf; omega
        have hfar := far_in has s hne
        simp only [if_pos cf, if_pos (show has.length = cp.toNat by omega)]
        refine Ev.bind (bestgo_ok l (by omega) (pre ++ [x]) s (by rw [h]; simp) has (by omega) hne) ?_
        have hfi : farIdx has s < has.length := by unfold farIdx; omega
        have hdel : slices_Delete_string_string.f has ((farIdx has s : Nat) : Int) (wrap64 (((farIdx has s : Nat) : Int) + 1)) = some (has.eraseIdx (farIdx has s)) := by
          unfold slices_Delete_string_string.f
          rw [up _ (by omega), if_pos ⟨by omega, by omega, by omega⟩, Int.toNat_natCast]
        have hle : (has.eraseIdx (farIdx has s)).length + 1 = has.length := by rw [List.length_eraseIdx_of_lt hfi]; omega
        simp only [hdel, Option.bind_some, if_pos (show (has.eraseIdx (farIdx has s)).length < 8796093022208 by omega)]
        refine Ev.eq (ih (pre ++ [x]) (has.eraseIdx (farIdx has s) ++ [x]) (hs ++ [false]) (by rw [h]; simp) (by simp; omega) (by simp [hhs])) (by simp)
      · simp only [if_neg cf, if_neg (show ¬ has.length = cp.toNat by omega), if_pos (show has.length < 8796093022208 by omega)]
        refine Ev.eq (ih (pre ++ [x]) (has ++ [x]) (hs ++ [false]) (by rw [h]; simp) (by simp; omega) (by simp [hhs])) (by simp)
theorem besthits_ok (l : List ByteArray) (hl : l.length ≤ 300) (hk : ∀ x ∈ l, KeyOk x) (cp : Int) (c1 : 1 ≤ cp) (c60 : cp ≤ 60) : Ev (fun k => impl_BestHits.f k l cp) (bestA cp.toNat [] l) := by
  unfold impl_BestHits.f
  refine Ev.bind (asksok_ok l hl hk) ?_
  simp only [if_true, within_ok cp 1 60 c1 c60, Option.bind_some, Bool.not_true]
  refine Ev.succ ?_
  simp only [impl_BestHits.j0, Bool.false_eq_true, if_false]
  refine Ev.eq (best_loop l hl cp c1 c60 l [] [] [] (by simp) (by simp; omega) rfl) (by simp)
theorem bestA_length {α : Type} [DecidableEq α] (cp : Nat) : ∀ (l has : List α), (bestA cp has l).length = l.length
  | [], _ => rfl
  | x :: l, has => by
    rw [bestA]
    split
    · simp [bestA_length cp l]
    · split <;> simp [bestA_length cp l]
theorem bestmisses_ok (l : List ByteArray) (hl : l.length ≤ 300) (hk : ∀ x ∈ l, KeyOk x) (cp : Int) (c1 : 1 ≤ cp) (c60 : cp ≤ 60) : Ev (fun k => impl_BestMisses.f k l cp) ((l.length : Int) - ((bestA cp.toNat [] l).count true : Int)) := by
  unfold impl_BestMisses.f
  refine Ev.bind (besthits_ok l hl hk cp c1 c60) ?_
  have hlen := bestA_length cp.toNat l ([] : List ByteArray)
  refine Ev.bind (hitsIn_ok _ (by omega)) ?_
  refine Ev.eq Ev.some ?_
  have hc : (bestA cp.toNat [] l).count true ≤ (bestA cp.toNat [] l).length := List.count_le_length
  rw [wrap64_in _ (by omega), hlen]
end Go.Proofs.Ytkaahabgbngodaa.Pure
end

section
namespace Go.Proofs.Ytkaahabgbngodaa.Pure
open Go.RowKit Go.Proofs.Ytkaahabgbngodaa.Core Go.Proofs.YtkaahabgbngodaaW.PrintWords Go.Proofs.YtkaahabgbngodaaW.PrintLast Go.IntWalk
set_option linter.unusedSimpArgs false
set_option linter.unusedVariables false
set_option linter.unusedSectionVars false
section keys
variable {α : Type} [DecidableEq α]
theorem sub_len : ∀ (X Y : List α), X.Nodup → (∀ y ∈ X, y ∈ Y) → X.length ≤ Y.length
  | [], _, _, _ => by simp
  | x :: X, Y, hn, hs => by
    rw [List.nodup_cons] at hn
    have hx := hs x (by simp)
    have ih := sub_len X (Y.erase x) hn.2 (fun y hy => (List.mem_erase_of_ne (fun e => hn.1 (by rw [← e]; exact hy))).mpr (hs y (by simp [hy])))
    rw [List.length_erase_of_mem hx] at ih
    have : 0 < Y.length := List.length_pos_of_mem hx
    simp only [List.length_cons]
    omega
theorem cp_sub (f : α → Bool) (X Y : List α) (hn : X.Nodup) (hs : ∀ y ∈ X, f y = true → y ∈ Y) : X.countP f ≤ Y.countP f := by
  rw [List.countP_eq_length_filter, List.countP_eq_length_filter]
  refine sub_len _ _ (hn.filter f) (fun y hy => ?_)
  rw [List.mem_filter] at hy ⊢
  exact ⟨hs y hy.1 hy.2, hy.2⟩
def NN (r X : List α) (t : Nat) : Nat := X.countP (fun y => decide (pos r y < t))
def nn (x : α) (r X : List α) (t : Nat) : Nat := X.countP (fun y => !decide (y = x) && decide (pos r y < t))
theorem cp_split (x : α) (f : α → Bool) : ∀ (X : List α), X.Nodup → X.countP f = (if x ∈ X ∧ f x = true then 1 else 0) + X.countP (fun y => !decide (y = x) && f y)
  | [], _ => by simp
  | y :: X, hn => by
    rw [List.nodup_cons] at hn
    have ih := cp_split x f X hn.2
    rw [List.countP_cons, List.countP_cons, ih]
    by_cases c : y = x
    · subst c
      have : ¬ (y ∈ X ∧ f y = true) := fun h => hn.1 h.1
      rw [if_neg this]
      by_cases cf : f y = true
      · simp [cf]; omega
      · simp [cf]
    · have hiff : (x ∈ y :: X ∧ f x = true) ↔ (x ∈ X ∧ f x = true) := by
        simp only [List.mem_cons]
        constructor
        · rintro ⟨h | h, h2⟩
          · exact absurd h.symm c
          · exact ⟨h, h2⟩
        · rintro ⟨h, h2⟩; exact ⟨.inr h, h2⟩
      by_cases cm : x ∈ X ∧ f x = true
      · rw [if_pos cm, if_pos (hiff.mpr cm)]; simp [c]; omega
      · rw [if_neg cm, if_neg (fun h => cm (hiff.mp h))]; simp [c]
theorem NN_before (x : α) (r X : List α) (hn : X.Nodup) (t : Nat) : NN (x :: r) X (t + 1) = (if x ∈ X then 1 else 0) + nn x r X t := by
  unfold NN nn
  rw [cp_split x _ X hn]
  have h0 : decide (pos (x :: r) x < t + 1) = true := by rw [pos, if_pos rfl]; simp
  have h1 : (fun y => !decide (y = x) && decide (pos (x :: r) y < t + 1)) = (fun y => !decide (y = x) && decide (pos r y < t)) := by
    funext y
    by_cases c : y = x
    · simp [c]
    · rw [pos, if_neg (fun e => c e.symm)]; simp [c]
  rw [h1, h0]
  simp
theorem NN_after (x : α) (r X : List α) (hn : X.Nodup) (hx : x ∈ X) (t : Nat) : NN r X t = (if pos r x < t then 1 else 0) + nn x r X t := by
  unfold NN nn
  rw [cp_split x _ X hn]
  simp [hx]
theorem nn_sub (x : α) (r X Y : List α) (hn : X.Nodup) (hs : ∀ y ∈ X, y = x ∨ y ∈ Y) (t : Nat) : nn x r X t ≤ nn x r Y t := by
  refine cp_sub _ X Y hn (fun y hy hf => ?_)
  rcases hs y hy with rfl | h
  · simp at hf
  · exact h
theorem nn_snoc (x : α) (r X : List α) (t : Nat) : nn x r (X ++ [x]) t = nn x r X t := by
  unfold nn; simp
theorem nn_erase (x : α) (r X : List α) (hx : x ∉ X) (i : Nat) (hi : i < X.length) (t : Nat) : nn x r (X.eraseIdx i) t + (if pos r X[i] < t then 1 else 0) = nn x r X t := by
  unfold nn
  rw [← (erase_perm X i hi).countP_eq, List.countP_cons]
  have : X[i] ≠ x := fun e => hx (by rw [← e]; exact List.getElem_mem hi)
  simp [this]
theorem nn_all (x : α) (r X : List α) (hx : x ∉ X) (t : Nat) (h : ∀ y ∈ X, pos r y < t) : nn x r X t = X.length := by
  unfold nn
  rw [List.countP_eq_length]
  intro y hy
  have : y ≠ x := fun e => hx (by rw [← e]; exact hy)
  simp [this, h y hy]
theorem nn_less (x : α) (r X : List α) (hx : x ∈ X) (t : Nat) : nn x r X t + 1 ≤ X.length := by
  unfold nn
  rw [(List.perm_cons_erase hx).countP_eq, List.countP_cons]
  have h1 : (X.erase x).countP (fun y => !decide (y = x) && decide (pos r y < t)) ≤ (X.erase x).length := List.countP_le_length
  rw [List.length_erase_of_mem hx] at h1
  have : 0 < X.length := List.length_pos_of_mem hx
  simp
  omega
theorem farGo_far (rest : List α) : ∀ (s q : List α) (b f : Int), q ++ s ≠ [] → (∀ y ∈ q, (pos rest y : Int) ≤ f) → ((q = [] ∧ f = -1) ∨ ∃ (j : Nat) (z : α), b = (j : Int) ∧ q[j]? = some z ∧ (pos rest z : Int) = f) →
    ∃ (j : Nat) (z : α), farGo rest s q.length b f = (j : Int) ∧ (q ++ s)[j]? = some z ∧ ∀ y ∈ q ++ s, pos rest y ≤ pos rest z
  | [], q, b, f, h0, h1, h2 => by
    rcases h2 with ⟨rfl, _⟩ | ⟨j, z, e1, e2, e3⟩
    · exact absurd rfl h0
    · refine ⟨j, z, e1, by simpa using e2, fun y hy => ?_⟩
      have := h1 y (by simpa using hy)
      omega
  | x :: s, q, b, f, h0, h1, h2 => by
    rw [farGo]
    have hlen : (q ++ [x]).length = q.length + 1 := by simp
    by_cases c : (pos rest x : Int) > f
    · rw [if_pos c, ← hlen]
      obtain ⟨j, z, e1, e2, e3⟩ := farGo_far rest s (q ++ [x]) q.length (pos rest x) (by simp) (fun y hy => by
        rcases List.mem_append.mp hy with hy | hy
        · have := h1 y hy; omega
        · rw [List.mem_singleton.mp hy]; omega) (.inr ⟨q.length, x, rfl, by simp, rfl⟩)
      exact ⟨j, z, e1, by simpa using e2, fun y hy => e3 y (by simpa using hy)⟩
    · rw [if_neg c, ← hlen]
      obtain ⟨j, z, e1, e2, e3⟩ := farGo_far rest s (q ++ [x]) b f (by simp) (fun y hy => by
        rcases List.mem_append.mp hy with hy | hy
        · exact h1 y hy
        · rw [List.mem_singleton.mp hy]; omega) (by
        rcases h2 with ⟨rfl, rfl⟩ | ⟨j, z, e1, e2, e3⟩
        · exact absurd (by omega) c
        · refine .inr ⟨j, z, e1, ?_, e3⟩
          rw [List.getElem?_append_left (List.getElem?_eq_some_iff.mp e2).1]; exact e2)
      exact ⟨j, z, e1, by simpa using e2, fun y hy => e3 y (by simpa using hy)⟩
theorem far_far (has rest : List α) (h : has ≠ []) : ∃ hi : farIdx has rest < has.length, ∀ y ∈ has, pos rest y ≤ pos rest has[farIdx has rest] := by
  obtain ⟨j, z, e1, e2, e3⟩ := farGo_far rest has [] (-1) (-1) (by simpa using h) (by simp) (.inl ⟨rfl, rfl⟩)
  have ej : farIdx has rest = j := by unfold farIdx; rw [show farGo rest has 0 (-1) (-1) = (j : Int) from e1]; simp
  rw [List.nil_append] at e2 e3
  obtain ⟨hj, hz⟩ := List.getElem?_eq_some_iff.mp e2
  refine ⟨by omega, fun y hy => ?_⟩
  have : has[farIdx has rest]'(by omega) = z := by simp only [ej]; exact hz
  rw [this]; exact e3 y hy
end keys
theorem belady {cp : Int} (M : Mach cp) (n : Nat) (hn : (n : Int) = cp) (n1 : 1 ≤ n) : ∀ (r A : List ByteArray) (s : M.σ) (mA mB : Nat), M.Good s → (∀ x ∈ r, KeyOk x) → A.Nodup → A.length ≤ n → (M.keys s).Nodup → (∀ t, t ≤ r.length → NN r (M.keys s) t + mA ≤ NN r A t + mB) →
    mA + (bestA n A r).count false ≤ mB + (M.run s r).2.1.count false
  | [], A, s, mA, mB, _, _, _, _, _, hi => by
    have := hi 0 (by simp)
    simp [NN, bestA, Mach.run] at this ⊢
    omega
  | x :: r, A, s, mA, mB, hg, hk, hA, hAl, hB, hi => by
    obtain ⟨hg1, st⟩ := M.next s x hg (hk x (by simp))
    have hk1 : ∀ y ∈ r, KeyOk y := fun y hy => hk y (by simp [hy])
    have hN : ∀ t, t ≤ r.length → (if x ∈ M.keys s then 1 else 0) + nn x r (M.keys s) t + mA ≤ (if x ∈ A then 1 else 0) + nn x r A t + mB := fun t ht => by
      have := hi (t + 1) (by simp; omega)
      rw [NN_before x r _ hB, NN_before x r _ hA] at this
      omega
    have hB1 : ∀ t, NN r (M.keys (M.step s x).1) t ≤ (if pos r x < t then 1 else 0) + nn x r (M.keys s) t := fun t => by
      rw [NN_after x r _ st.nod st.mem]
      have := nn_sub x r _ _ st.nod st.sub t
      omega
    have hB2 : ∀ t, NN r (M.keys (M.step s x).1) t + 1 ≤ (if pos r x < t then 1 else 0) + n := fun t => by
      rw [NN_after x r _ st.nod st.mem]
      have := nn_less x r _ st.mem t
      have := st.len
      omega
    have z0 : ∀ X : List ByteArray, nn x r X 0 = 0 := fun X => by unfold nn; simp
    have hmB : (M.run s (x :: r)).2.1.count false = (if x ∈ M.keys s then 0 else 1) + (M.run (M.step s x).1 r).2.1.count false := by
      have he : (M.run s (x :: r)).2.1 = (M.step s x).2.1 :: (M.run (M.step s x).1 r).2.1 := rfl
      rw [he, st.hit]
      by_cases c : x ∈ M.keys s
      · simp [c]
      · simp [c]; omega
    rw [hmB]
    have go : ∀ (A' : List ByteArray) (mA' : Nat), A'.Nodup → A'.length ≤ n → (∀ t, t ≤ r.length → NN r (M.keys (M.step s x).1) t + mA' ≤ NN r A' t + (mB + (if x ∈ M.keys s then 0 else 1))) → mA' + (bestA n A' r).count false ≤ mB + ((if x ∈ M.keys s then 0 else 1) + (M.run (M.step s x).1 r).2.1.count false) := fun A' mA' h1 h2 h3 => by
      have := belady M n hn n1 r A' _ mA' (mB + (if x ∈ M.keys s then 0 else 1)) hg1 hk1 h1 h2 st.nod h3
      omega
    rw [bestA]
    by_cases cA : x ∈ A
    · rw [if_pos cA]
      have := go A mA hA hAl (fun t ht => by
        have h1 := hN t ht
        have h2 := hB1 t
        rw [if_pos cA] at h1
        rw [NN_after x r A hA cA]
        by_cases c : x ∈ M.keys s
        · rw [if_pos c] at h1 ⊢; omega
        · rw [if_neg c] at h1 ⊢; omega)
      simpa using this
    · rw [if_neg cA]
      have hAx : (A ++ [x]).Nodup := by
        rw [List.nodup_append]
        exact ⟨hA, by simp, fun a ha b hb => by rw [List.mem_singleton.mp hb]; rintro rfl; exact cA ha⟩
      by_cases cf : A.length = n
      · rw [if_pos cf]
        have hne : A ≠ [] := by rintro rfl; simp at cf; omega
        obtain ⟨hfi, hfar⟩ := far_far A r hne
        have hE : (A.eraseIdx (farIdx A r) ++ [x]).Nodup := hAx.sublist ((List.eraseIdx_sublist A _).append_right [x])
        have hEl : (A.eraseIdx (farIdx A r)).length + 1 = A.length := by rw [List.length_eraseIdx_of_lt hfi]; omega
        have := go (A.eraseIdx (farIdx A r) ++ [x]) (mA + 1) hE (by simp; omega) (fun t ht => by
          have h1 := hN t ht
          have h0 := hN 0 (by omega)
          have h2 := hB1 t
          have h3 := hB2 t
          rw [z0, z0] at h0
          rw [if_neg cA] at h1 h0
          rw [NN_after x r _ hE (by simp), nn_snoc]
          have h4 := nn_erase x r A cA (farIdx A r) hfi t
          by_cases ct : pos r A[farIdx A r] < t
          · rw [if_pos ct] at h4
            have h5 := nn_all x r A cA t (fun y hy => by have := hfar y hy; omega)
            by_cases c : x ∈ M.keys s
            · rw [if_pos c] at h1 h0 ⊢; omega
            · rw [if_neg c] at h1 h0 ⊢; omega
          · rw [if_neg ct] at h4
            by_cases c : x ∈ M.keys s
            · rw [if_pos c] at h1 ⊢; omega
            · rw [if_neg c] at h1 ⊢; omega)
        simp only [List.count_cons_self]
        omega
      · rw [if_neg cf]
        have := go (A ++ [x]) (mA + 1) hAx (by simp; omega) (fun t ht => by
          have h1 := hN t ht
          have h2 := hB1 t
          rw [if_neg cA] at h1
          rw [NN_after x r _ hAx (by simp), nn_snoc]
          by_cases c : x ∈ M.keys s
          · rw [if_pos c] at h1 ⊢; omega
          · rw [if_neg c] at h1 ⊢; omega)
        simp only [List.count_cons_self]
        omega
theorem belady0 {cp : Int} (M : Mach cp) (n : Nat) (hn : (n : Int) = cp) (n1 : 1 ≤ n) (l : List ByteArray) (hk : ∀ x ∈ l, KeyOk x) : (bestA n [] l).count false ≤ (M.run M.init l).2.1.count false := by
  have := belady M n hn n1 l [] M.init 0 0 M.good0 hk (by simp) (by simp) (by rw [M.keys0]; simp) (fun t _ => by rw [M.keys0]; simp [NN])
  omega
theorem count_two (bs : List Bool) : bs.count true + bs.count false = bs.length := by
  induction bs with
  | nil => rfl
  | cons b bs ih => cases b <;> simp <;> omega
theorem first_miss (n : Nat) : ∀ (r acc has : List ByteArray), (∀ y ∈ has, y ∈ acc) → (dd acc r).length ≤ acc.length + (bestA n has r).count false
  | [], acc, has, h => by simp [dd, bestA]
  | x :: r, acc, has, h => by
    have hsub : ∀ (h1 : List ByteArray), (∀ y ∈ h1, y ∈ has) → (∀ y ∈ h1 ++ [x], y ∈ acc ++ [x]) ∧ (x ∈ acc → ∀ y ∈ h1 ++ [x], y ∈ acc) := fun h1 hh => by
      refine ⟨fun y hy => ?_, fun hx y hy => ?_⟩
      · rcases List.mem_append.mp hy with hy | hy
        · exact List.mem_append_left _ (h y (hh y hy))
        · exact List.mem_append_right _ hy
      · rcases List.mem_append.mp hy with hy | hy
        · exact h y (hh y hy)
        · rw [List.mem_singleton.mp hy]; exact hx
    rw [bestA, dd]
    by_cases cH : x ∈ has
    · rw [if_pos cH, if_pos (h x cH)]
      have := first_miss n r acc has h
      simpa using this
    · rw [if_neg cH]
      have all : ∀ h1 : List ByteArray, (∀ y ∈ h1, y ∈ has) → (if x ∈ acc then dd acc r else dd (acc ++ [x]) r).length ≤ acc.length + (false :: bestA n (h1 ++ [x]) r).count false := fun h1 hh => by
        rw [List.count_cons_self]
        by_cases cx : x ∈ acc
        · rw [if_pos cx]
          have := first_miss n r acc (h1 ++ [x]) ((hsub h1 hh).2 cx)
          omega
        · rw [if_neg cx]
          have := first_miss n r (acc ++ [x]) (h1 ++ [x]) (hsub h1 hh).1
          simp at this
          omega
      by_cases cf : has.length = n
      · rw [if_pos cf]; exact all _ (fun y hy => (List.eraseIdx_sublist has _).subset hy)
      · rw [if_neg cf]; exact all _ (fun y hy => hy)
end Go.Proofs.Ytkaahabgbngodaa.Pure
end

section
namespace Go.Proofs.Ytkaahabgbngodaa.Pure
open Go.RowKit Go.Proofs.Ytkaahabgbngodaa.Core Go.Proofs.YtkaahabgbngodaaW.PrintWords Go.Proofs.YtkaahabgbngodaaW.PrintLast Go.IntWalk
set_option linter.unusedSimpArgs false
set_option linter.unusedVariables false
theorem FnNone : laws_FnNone.Pure := by
  intro l0 _ _ _
  refine Ev.some' (F := fun k => laws_FnNone.f k l0) ?_
  unfold laws_FnNone.f
  by_cases c : (l0.length : Int) > 1048576
  · simp only [if_pos c]; exact Ev.some
  simp only [if_neg c]
  obtain ⟨l, el, hl, hK⟩ := asks_ok l0 24 (by omega) (by omega) (by omega)
  have hl24 : l.length ≤ 24 := by omega
  have hb5 : l.length ≤ 300 := by omega
  obtain ⟨kd, cp, mo, M, es, c1, c5, T⟩ := setup_mach l0 (by omega)
  have hk : ∀ x ∈ l, KeyOk x := fun x hx => key8 x (hK x hx)
  have hbel := belady0 M cp.toNat (by omega) (by omega) l hk
  have hlen := M.run_length l M.init
  have h2 := count_two (M.run M.init l).2.1
  have h3 := count_two (bestA cp.toNat [] l)
  have h4 := bestA_length cp.toNat l ([] : List ByteArray)
  have h5 := first_miss cp.toNat l [] [] (by simp)
  have h6 : l ≠ [] → 0 < (dd [] l).length := fun h => by
    cases l with
    | nil => exact absurd rfl h
    | cons x l => exact List.length_pos_of_mem ((dd_mem (x :: l) [] x).mpr (.inr (by simp)))
  rw [List.length_nil] at h5
  refine Ev.bind el ?_
  refine Ev.bind es ?_
  dsimp only
  refine Ev.bind (T.count l hb5 hk) ?_
  refine Ev.bind (bestmisses_ok l hb5 hk cp c1 (by omega)) ?_
  refine Ev.bind (distinct_ok l (by omega)) ?_
  refine Ev.bind T.setup ?_
  simp only [if_true]
  refine Ev.bind (asksok_ok l hb5 hk) ?_
  simp only [if_true]
  rw [if_pos (by omega), if_pos (by omega), less_ok]
  refine Ev.eq Ev.some ?_
  rw [decide_eq_true_iff]
  by_cases c0 : l = []
  · subst c0; simp
  · have := h6 c0
    split <;> omega
end Go.Proofs.Ytkaahabgbngodaa.Pure
end
