import PyProof.Rows.All
import Wide.All
import OpenK.AllK
import Wide.FinOn
import KE.SortData
import HandS.ForMost
import HandS.Deep
import HandS.TupSets
import PyProof.SetRoads
import HandS.DictComp
import HandS.IsInst
import HandS.TupAny
import HandS.Wide
import PySem.Challenge.RW_holdtree_k09_whole_trees_put_together
import HandS.Walk
import HandS.Defaults
import HandS.Conv
section
set_option Elab.async false
set_option linter.all false
set_option maxRecDepth 100000
set_option maxHeartbeats 4000000
/-! K1Math: rooms as lists of names, in plain Lean: what the law says of a sorted tree of rooms. -/
namespace Ho
variable {A : Type} [DecidableEq A]

/-! ### an order of names, and of rooms -/
structure TO {B : Type} (lt : B → B → Bool) : Prop where
  irr : ∀ x, lt x x = false
  tr : ∀ x y z, lt x y = true → lt y z = true → lt x z = true
  tot : ∀ x y, x ≠ y → lt x y = true ∨ lt y x = true
theorem TO.asym {B : Type} {lt : B → B → Bool} (O : TO lt) {x y : B} (h : lt x y = true) : lt y x = false := by
  cases q : lt y x with
  | false => rfl
  | true =>
    have z := O.tr x y x h q
    rw [O.irr] at z
    cases z
theorem TO.ne {B : Type} {lt : B → B → Bool} (O : TO lt) {x y : B} (h : lt x y = true) : x ≠ y := by
  rintro rfl
  rw [O.irr] at h
  cases h
/-- strictly rising -/
def Ris {B : Type} (lt : B → B → Bool) (l : List B) : Prop := l.Pairwise fun x y => lt x y = true
/-- two rising lists of the same members are one -/
theorem ris_ext {B : Type} {lt : B → B → Bool} (O : TO lt) : ∀ {l m : List B}, Ris lt l → Ris lt m → (∀ x, x ∈ l ↔ x ∈ m) → l = m
  | [], [], _, _, _ => rfl
  | [], y :: m, _, _, h => absurd ((h y).mpr List.mem_cons_self) (by simp)
  | x :: l, [], _, _, h => absurd ((h x).mp List.mem_cons_self) (by simp)
  | x :: l, y :: m, hl, hm, h => by
    obtain ⟨l1, l2⟩ := List.pairwise_cons.mp hl
    obtain ⟨m1, m2⟩ := List.pairwise_cons.mp hm
    have e : x = y := by
      rcases List.mem_cons.mp ((h x).mp List.mem_cons_self) with e | hx
      · exact e
      · rcases List.mem_cons.mp ((h y).mpr List.mem_cons_self) with e | hy
        · exact e.symm
        · have a := m1 x hx
          have b := l1 y hy
          rw [O.asym a] at b
          cases b
    subst e
    have t : l = m := ris_ext O l2 m2 fun z => by
      constructor
      · intro hz
        rcases List.mem_cons.mp ((h z).mp (List.mem_cons_of_mem _ hz)) with e | q
        · exact absurd e.symm (O.ne (l1 z hz))
        · exact q
      · intro hz
        rcases List.mem_cons.mp ((h z).mpr (List.mem_cons_of_mem _ hz)) with e | q
        · exact absurd e.symm (O.ne (m1 z hz))
        · exact q
    rw [t]
theorem ris_nodup {B : Type} {lt : B → B → Bool} (O : TO lt) {l : List B} (h : Ris lt l) : l.Nodup := List.Pairwise.imp (fun h => O.ne h) h
/-- unlike things, none below an earlier one: rising -/
theorem ris_of_le {B : Type} {lt : B → B → Bool} (O : TO lt) {l : List B} (hn : l.Nodup) (h : l.Pairwise fun x y => lt y x = false) : Ris lt l := by
  refine List.Pairwise.imp₂ (fun x y a b => ?_) hn h
  rcases O.tot x y a with q | q
  · exact q
  · rw [q] at b
    cases b

variable (lt : A → A → Bool)
def rlt : List A → List A → Bool
  | [], [] => false
  | [], _ :: _ => true
  | _ :: _, [] => false
  | x :: xs, y :: ys => if x = y then rlt xs ys else lt x y
variable {lt}
theorem rlt_same (x : A) (xs ys : List A) : rlt lt (x :: xs) (x :: ys) = rlt lt xs ys := by
  rw [rlt, if_pos rfl]
theorem rlt_diff {x y : A} (h : x ≠ y) (xs ys : List A) : rlt lt (x :: xs) (y :: ys) = lt x y := by
  rw [rlt, if_neg h]
theorem rlt_pre (r a b : List A) : rlt lt (r ++ a) (r ++ b) = rlt lt a b := by
  induction r with
  | nil => rfl
  | cons x r ih => rw [List.cons_append, List.cons_append, rlt_same, ih]
theorem rlt_nil {a : List A} (h : a ≠ []) : rlt lt [] a = true := by
  cases a with
  | nil => exact absurd rfl h
  | cons x a => rfl
theorem rlt_ext (r : List A) {a : List A} (h : a ≠ []) : rlt lt r (r ++ a) = true := by
  have e := rlt_pre (lt := lt) r [] a
  rw [List.append_nil] at e
  rw [e, rlt_nil h]
theorem rlt_irr (O : TO lt) : ∀ a : List A, rlt lt a a = false
  | [] => rfl
  | x :: a => by rw [rlt_same, rlt_irr O a]
theorem rlt_tr (O : TO lt) : ∀ a b c : List A, rlt lt a b = true → rlt lt b c = true → rlt lt a c = true
  | [], [], _, h, _ => absurd h (by simp [rlt])
  | [], _ :: _, [], _, h => absurd h (by simp [rlt])
  | [], _ :: _, _ :: _, _, _ => rfl
  | _ :: _, [], _, h, _ => absurd h (by simp [rlt])
  | _ :: _, _ :: _, [], _, h => absurd h (by simp [rlt])
  | x :: a, y :: b, z :: c, h1, h2 => by
    by_cases e1 : x = y
    · subst e1
      rw [rlt_same] at h1
      by_cases e2 : x = z
      · subst e2
        rw [rlt_same] at h2 ⊢
        exact rlt_tr O a b c h1 h2
      · rw [rlt_diff e2] at h2 ⊢
        exact h2
    · rw [rlt_diff e1] at h1
      by_cases e2 : y = z
      · subst e2
        rw [rlt_diff e1]
        exact h1
      · rw [rlt_diff e2] at h2
        have h3 := O.tr x y z h1 h2
        rw [rlt_diff (O.ne h3)]
        exact h3
theorem rlt_tot (O : TO lt) : ∀ a b : List A, a ≠ b → rlt lt a b = true ∨ rlt lt b a = true
  | [], [], h => absurd rfl h
  | [], _ :: _, _ => .inl rfl
  | _ :: _, [], _ => .inr rfl
  | x :: a, y :: b, h => by
    by_cases e : x = y
    · subst e
      rw [rlt_same, rlt_same]
      exact rlt_tot O a b fun q => h (by rw [q])
    · rw [rlt_diff e, rlt_diff (fun q => e q.symm)]
      exact O.tot x y e
theorem rlt_to (O : TO lt) : TO (rlt lt) := ⟨rlt_irr O, rlt_tr O, rlt_tot O⟩

/-! ### what the program tells of rooms -/
def inside (T : List (List A)) (r : List A) : List (List A) := T.filter fun o => decide (o.dropLast = r) && decide (o ≠ r)
def beneath (T : List (List A)) (r : List A) : List (List A) := T.filter fun o => decide (o.take r.length = r) && decide (o ≠ r)
def over (r : List A) : List (List A) := (List.range r.length).map fun n => r.take n
def ends (T : List (List A)) : List (List A) := T.filter fun r => decide (inside T r = [])
/-- a room and all within it -/
def sub (T : List (List A)) (r : List A) : List (List A) := T.filter fun o => decide (o.take r.length = r)
def down (T : List (List A)) : Nat → List A → List (List A)
  | 0, r => [r]
  | n + 1, r => r :: (inside T r).flatMap (down T n)
/-- a tree of rooms: rising, the whole in it, with each the one that it stands in, at most four names deep -/
structure Tree (lt : A → A → Bool) (T : List (List A)) : Prop where
  ris : Ris (rlt lt) T
  whole : [] ∈ T
  up : ∀ t ∈ T, t.dropLast ∈ T
  deep : ∀ t ∈ T, t.length ≤ 4

theorem mem_inside {T : List (List A)} {r c : List A} : c ∈ inside T r ↔ c ∈ T ∧ ∃ x, c = r ++ [x] := by
  unfold inside
  rw [List.mem_filter, Bool.and_eq_true, decide_eq_true_eq, decide_eq_true_eq]
  constructor
  · rintro ⟨h1, h2, h3⟩
    refine ⟨h1, ?_⟩
    have hc : c ≠ [] := by
      rintro rfl
      exact h3 h2
    refine ⟨c.getLast hc, ?_⟩
    rw [← h2]
    exact (List.dropLast_concat_getLast hc).symm
  · rintro ⟨h1, x, rfl⟩
    exact ⟨h1, by simp, by simp⟩
theorem take_iff {o r : List A} : o.take r.length = r ↔ ∃ s, o = r ++ s := by
  constructor
  · intro h
    exact ⟨o.drop r.length, by
      have e := List.take_append_drop r.length o
      rw [h] at e
      exact e.symm⟩
  · rintro ⟨s, rfl⟩
    rw [List.take_left]
theorem mem_sub {T : List (List A)} {r o : List A} : o ∈ sub T r ↔ o ∈ T ∧ ∃ s, o = r ++ s := by
  unfold sub
  rw [List.mem_filter, decide_eq_true_eq, take_iff]
theorem mem_beneath {T : List (List A)} {r o : List A} : o ∈ beneath T r ↔ o ∈ T ∧ ∃ s, s ≠ [] ∧ o = r ++ s := by
  unfold beneath
  rw [List.mem_filter, Bool.and_eq_true, decide_eq_true_eq, decide_eq_true_eq, take_iff]
  constructor
  · rintro ⟨h1, ⟨s, rfl⟩, h3⟩
    refine ⟨h1, s, ?_, rfl⟩
    rintro rfl
    exact h3 (by rw [List.append_nil])
  · rintro ⟨h1, s, hs, rfl⟩
    refine ⟨h1, ⟨s, rfl⟩, fun e => hs ?_⟩
    have e2 : r ++ s = r ++ [] := by rw [List.append_nil]; exact e
    exact List.append_cancel_left e2
theorem mem_ends {T : List (List A)} {r : List A} : r ∈ ends T ↔ r ∈ T ∧ inside T r = [] := by
  unfold ends
  rw [List.mem_filter, decide_eq_true_eq]

section
variable {T : List (List A)}
theorem ris_inside (W : Tree lt T) (r : List A) : Ris (rlt lt) (inside T r) := List.Pairwise.filter _ W.ris
theorem ris_beneath (W : Tree lt T) (r : List A) : Ris (rlt lt) (beneath T r) := List.Pairwise.filter _ W.ris
theorem ris_sub (W : Tree lt T) (r : List A) : Ris (rlt lt) (sub T r) := List.Pairwise.filter _ W.ris
theorem ris_ends (W : Tree lt T) : Ris (rlt lt) (ends T) := List.Pairwise.filter _ W.ris
/-- the front of a room is a room -/
theorem Tree.pre (W : Tree lt T) : ∀ (s r : List A), r ++ s ∈ T → r ∈ T := by
  intro s
  induction hs : s.length generalizing s with
  | zero =>
    intro r h
    rw [List.length_eq_zero_iff.mp hs, List.append_nil] at h
    exact h
  | succ n ih =>
    intro r h
    have hne : s ≠ [] := by
      rintro rfl
      cases hs
    have h2 := W.up _ h
    rw [List.dropLast_append_of_ne_nil hne] at h2
    exact ih s.dropLast (by rw [List.length_dropLast, hs]; rfl) r h2
/-- a room is itself, then those within those that stand in it -/
theorem sub_eq (O : TO lt) (W : Tree lt T) {r : List A} (hr : r ∈ T) : sub T r = r :: (inside T r).flatMap (sub T) := by
  refine ris_ext (rlt_to O) (ris_sub W r) ?_ fun o => ?_
  · refine List.pairwise_cons.mpr ⟨fun o ho => ?_, ?_⟩
    · obtain ⟨c, hc, ho⟩ := List.mem_flatMap.mp ho
      obtain ⟨_, x, rfl⟩ := mem_inside.mp hc
      obtain ⟨_, s, rfl⟩ := mem_sub.mp ho
      rw [List.append_assoc]
      exact rlt_ext r (by simp)
    · refine List.pairwise_flatMap.mpr ⟨fun c _ => ris_sub W c, ?_⟩
      refine List.Pairwise.imp_of_mem (fun {c d} hc hd h => ?_) (ris_inside W r)
      obtain ⟨_, x, rfl⟩ := mem_inside.mp hc
      obtain ⟨_, y, rfl⟩ := mem_inside.mp hd
      intro o ho p hp
      obtain ⟨_, s, rfl⟩ := mem_sub.mp ho
      obtain ⟨_, t, rfl⟩ := mem_sub.mp hp
      have hxy : lt x y = true := by
        rw [rlt_pre] at h
        by_cases e : x = y
        · subst e
          rw [rlt_same] at h
          cases h
        · rw [rlt_diff e] at h
          exact h
      rw [List.append_assoc, List.append_assoc, rlt_pre]
      show rlt lt (x :: s) (y :: t) = true
      rw [rlt_diff (O.ne hxy)]
      exact hxy
  · rw [mem_sub, List.mem_cons, List.mem_flatMap]
    constructor
    · rintro ⟨h1, s, rfl⟩
      cases s with
      | nil => exact .inl (by rw [List.append_nil])
      | cons x s =>
        refine .inr ⟨r ++ [x], mem_inside.mpr ⟨W.pre s (r ++ [x]) (by rw [List.append_assoc]; exact h1), x, rfl⟩, mem_sub.mpr ⟨h1, s, ?_⟩⟩
        rw [List.append_assoc]
        rfl
    · rintro (rfl | ⟨c, hc, ho⟩)
      · exact ⟨hr, [], by rw [List.append_nil]⟩
      · obtain ⟨_, x, rfl⟩ := mem_inside.mp hc
        obtain ⟨h1, s, rfl⟩ := mem_sub.mp ho
        exact ⟨h1, [x] ++ s, by rw [List.append_assoc]⟩
theorem inside_deep (W : Tree lt T) {r : List A} (h : 4 ≤ r.length) : inside T r = [] := by
  refine List.eq_nil_iff_forall_not_mem.mpr fun c hc => ?_
  obtain ⟨h1, x, rfl⟩ := mem_inside.mp hc
  have := W.deep _ h1
  rw [List.length_append] at this
  simp at this
  omega
theorem down_eq (O : TO lt) (W : Tree lt T) : ∀ (n : Nat) (r : List A), r ∈ T → 4 ≤ r.length + n → down T n r = sub T r
  | 0, r, hr, h => by
    rw [sub_eq O W hr, inside_deep W (by omega)]
    rfl
  | n + 1, r, hr, h => by
    rw [sub_eq O W hr]
    show r :: (inside T r).flatMap (down T n) = _
    have e : (inside T r).flatMap (down T n) = (inside T r).flatMap (sub T) := by
      rw [List.flatMap_def, List.flatMap_def]
      refine congrArg List.flatten (List.map_congr_left fun c hc => ?_)
      obtain ⟨h1, x, rfl⟩ := mem_inside.mp hc
      refine down_eq O W n _ h1 ?_
      rw [List.length_append, List.length_singleton]
      omega
    rw [e]
theorem sub_whole (T : List (List A)) : sub T [] = T := by
  unfold sub
  exact List.filter_eq_self.mpr fun o _ => by simp
theorem down_whole (O : TO lt) (W : Tree lt T) : down T 4 [] = T := by
  rw [down_eq O W 4 [] W.whole (by simp), sub_whole]
theorem sub_cons (O : TO lt) (W : Tree lt T) {r : List A} (hr : r ∈ T) : sub T r = r :: beneath T r := by
  refine ris_ext (rlt_to O) (ris_sub W r) ?_ fun o => ?_
  · refine List.pairwise_cons.mpr ⟨fun o ho => ?_, ris_beneath W r⟩
    obtain ⟨_, s, hs, rfl⟩ := mem_beneath.mp ho
    exact rlt_ext r hs
  · rw [mem_sub, List.mem_cons, mem_beneath]
    constructor
    · rintro ⟨h1, s, rfl⟩
      cases s with
      | nil => exact .inl (by rw [List.append_nil])
      | cons x s => exact .inr ⟨h1, x :: s, by simp, rfl⟩
    · rintro (rfl | ⟨h1, s, _, rfl⟩)
      · exact ⟨hr, [], by rw [List.append_nil]⟩
      · exact ⟨h1, s, rfl⟩
/-- beneath is inside and beneath of these -/
theorem within_eq (O : TO lt) (W : Tree lt T) {r : List A} (hr : r ∈ T) : ((inside T r).flatMap fun c => c :: beneath T c) = beneath T r := by
  have e := sub_eq O W hr
  rw [sub_cons O W hr] at e
  injection e with _ e
  rw [e, List.flatMap_def, List.flatMap_def]
  refine congrArg List.flatten (List.map_congr_left fun c hc => ?_)
  exact (sub_cons O W (mem_inside.mp hc).1).symm
theorem over_child (r : List A) (x : A) : over (r ++ [x]) = over r ++ [r] := by
  unfold over
  rw [List.length_append, List.length_singleton, List.range_succ, List.map_append, List.map_singleton, List.take_left]
  refine congrArg (· ++ [r]) (List.map_congr_left fun n hn => ?_)
  rw [List.take_append_of_le_length (Nat.le_of_lt (List.mem_range.mp hn))]
theorem over_inside {r c : List A} (h : c ∈ inside T r) : over c = over r ++ [r] := by
  obtain ⟨_, x, rfl⟩ := mem_inside.mp h
  exact over_child r x
/-- below each room stands an end -/
theorem ends_below (W : Tree lt T) : ∀ (n : Nat) (u : List A), u ∈ T → 4 ≤ u.length + n → ∃ s, u ++ s ∈ ends T
  | 0, u, hu, h => ⟨[], by
      rw [List.append_nil]
      exact mem_ends.mpr ⟨hu, inside_deep W (by omega)⟩⟩
  | n + 1, u, hu, h => by
    cases e : inside T u with
    | nil => exact ⟨[], by rw [List.append_nil]; exact mem_ends.mpr ⟨hu, e⟩⟩
    | cons c cs =>
      have hc : c ∈ inside T u := by rw [e]; exact List.mem_cons_self
      obtain ⟨h1, x, rfl⟩ := mem_inside.mp hc
      obtain ⟨s, hs⟩ := ends_below W n (u ++ [x]) h1 (by rw [List.length_append, List.length_singleton]; omega)
      exact ⟨[x] ++ s, by rw [← List.append_assoc]; exact hs⟩
theorem mem_over {e u : List A} : u ∈ over e ++ [e] ↔ ∃ s, e = u ++ s := by
  rw [List.mem_append, List.mem_singleton]
  unfold over
  rw [List.mem_map]
  constructor
  · rintro (⟨n, hn, rfl⟩ | rfl)
    · exact ⟨e.drop n, (List.take_append_drop n e).symm⟩
    · exact ⟨[], by rw [List.append_nil]⟩
  · rintro ⟨s, rfl⟩
    cases s with
    | nil => exact .inr (by rw [List.append_nil])
    | cons x s => exact .inl ⟨u.length, by rw [List.mem_range, List.length_append, List.length_cons]; omega, by rw [List.take_left]⟩
/-- the ends within a room -/
def due (T : List (List A)) (r : List A) : List (List A) := (ends T).filter fun o => decide (o.take r.length = r) && decide (o ≠ r)
/-- the ends beneath a room with all that they stand in -/
def found (T : List (List A)) (r : List A) : List (List A) := (due T r).flatMap fun e => (over e ++ [e]).filter fun u => decide (r.length < u.length)
theorem mem_due {r o : List A} : o ∈ due T r ↔ o ∈ ends T ∧ ∃ s, s ≠ [] ∧ o = r ++ s := by
  unfold due
  rw [List.mem_filter, Bool.and_eq_true, decide_eq_true_eq, decide_eq_true_eq, take_iff]
  constructor
  · rintro ⟨h1, ⟨s, rfl⟩, h3⟩
    refine ⟨h1, s, ?_, rfl⟩
    rintro rfl
    exact h3 (by rw [List.append_nil])
  · rintro ⟨h1, s, hs, rfl⟩
    refine ⟨h1, ⟨s, rfl⟩, fun e => hs ?_⟩
    have e2 : r ++ s = r ++ [] := by rw [List.append_nil]; exact e
    exact List.append_cancel_left e2
theorem mem_found (W : Tree lt T) {r u : List A} : u ∈ found T r ↔ u ∈ beneath T r := by
  unfold found
  rw [List.mem_flatMap]
  constructor
  · rintro ⟨e, he, hu⟩
    obtain ⟨h1, s, hs, rfl⟩ := mem_due.mp he
    rw [List.mem_filter, decide_eq_true_eq] at hu
    obtain ⟨hu, hl⟩ := hu
    obtain ⟨t, et⟩ := mem_over.mp hu
    have hT := (mem_ends.mp h1).1
    rw [et] at hT
    refine mem_beneath.mpr ⟨W.pre t u hT, ?_⟩
    obtain ⟨q, rfl⟩ : ∃ q, u = r ++ q := by
      refine take_iff.mp ?_
      have e2 := congrArg (List.take r.length) et
      rw [List.take_left, List.take_append_of_le_length (Nat.le_of_lt hl)] at e2
      exact e2.symm
    refine ⟨q, ?_, rfl⟩
    rintro rfl
    rw [List.append_nil] at hl
    exact Nat.lt_irrefl _ hl
  · intro hu
    obtain ⟨hT, s, hs, rfl⟩ := mem_beneath.mp hu
    obtain ⟨t, ht⟩ := ends_below W 4 (r ++ s) hT (by omega)
    refine ⟨r ++ s ++ t, mem_due.mpr ⟨ht, s ++ t, by simp [hs], by rw [List.append_assoc]⟩, ?_⟩
    rw [List.mem_filter, decide_eq_true_eq]
    refine ⟨mem_over.mpr ⟨t, rfl⟩, ?_⟩
    rw [List.length_append]
    have : 0 < s.length := List.length_pos_iff.mpr hs
    omega

/-! ### a tree of its own of what is within one -/
def cut (T : List (List A)) (r : List A) : List (List A) := (beneath T r).map (List.drop r.length)
theorem mem_cut {r q : List A} : q ∈ cut T r ↔ q ≠ [] ∧ r ++ q ∈ T := by
  unfold cut
  rw [List.mem_map]
  constructor
  · rintro ⟨o, ho, rfl⟩
    obtain ⟨h1, s, hs, rfl⟩ := mem_beneath.mp ho
    rw [List.drop_left]
    exact ⟨hs, h1⟩
  · rintro ⟨h1, h2⟩
    exact ⟨r ++ q, mem_beneath.mpr ⟨h2, q, h1, rfl⟩, List.drop_left⟩
theorem ris_cut (W : Tree lt T) (r : List A) : Ris (rlt lt) (cut T r) := by
  refine List.pairwise_map.mpr (List.Pairwise.imp_of_mem (fun {a b} ha hb h => ?_) (ris_beneath W r))
  obtain ⟨_, s, _, rfl⟩ := mem_beneath.mp ha
  obtain ⟨_, t, _, rfl⟩ := mem_beneath.mp hb
  rw [rlt_pre] at h
  rw [List.drop_left, List.drop_left]
  exact h
/-- what is to be told of unlike rooms that make a tree -/
structure Good (L : List (List A)) : Prop where
  nd : L.Nodup
  ne : [] ∉ L
  up : ∀ t ∈ L, t.dropLast ∈ L ∨ t.dropLast = []
  deep : ∀ t ∈ L, t.length ≤ 4
theorem good_cut (O : TO lt) (W : Tree lt T) {r : List A} : Good (cut T r) where
  nd := ris_nodup (rlt_to O) (ris_cut W r)
  ne := fun h => (mem_cut.mp h).1 rfl
  up := fun t ht => by
    obtain ⟨h1, h2⟩ := mem_cut.mp ht
    by_cases e : t.dropLast = []
    · exact .inr e
    · refine .inl (mem_cut.mpr ⟨e, ?_⟩)
      have h3 := W.up _ h2
      rw [List.dropLast_append_of_ne_nil h1] at h3
      exact h3
  deep := fun t ht => by
    have := W.deep _ (mem_cut.mp ht).2
    rw [List.length_append] at this
    omega
/-- the rising list of good rooms and the whole is a tree -/
theorem tree_of {L S : List (List A)} (G : Good L) (h : Ris (rlt lt) S) (hm : ∀ q, q ∈ S ↔ q = [] ∨ q ∈ L) : Tree lt S where
  ris := h
  whole := (hm _).mpr (.inl rfl)
  up := fun t ht => by
    rcases (hm t).mp ht with rfl | q
    · exact ht
    · rcases G.up t q with a | a
      · exact (hm _).mpr (.inr a)
      · exact (hm _).mpr (.inl a)
  deep := fun t ht => by
    rcases (hm t).mp ht with rfl | q
    · exact Nat.zero_le _
    · exact G.deep t q
theorem mem_lesser {S : List (List A)} {r : List A} (hr : r ∈ T) (hm : ∀ q, q ∈ S ↔ q = [] ∨ q ∈ cut T r) (q : List A) : q ∈ S ↔ r ++ q ∈ T := by
  rw [hm, mem_cut]
  constructor
  · rintro (rfl | ⟨_, h⟩)
    · rw [List.append_nil]; exact hr
    · exact h
  · intro h
    by_cases e : q = []
    · exact .inl e
    · exact .inr ⟨e, h⟩
theorem ris_under {l : List (List A)} (r : List A) (h : Ris (rlt lt) l) : Ris (rlt lt) (l.map (r ++ ·)) :=
  List.pairwise_map.mpr (List.Pairwise.imp (fun h => by rw [rlt_pre]; exact h) h)
/-- inside, under the shorter names -/
theorem lesser_inside (O : TO lt) (W : Tree lt T) {S : List (List A)} (WS : Tree lt S) {r : List A} (hS : ∀ q, q ∈ S ↔ r ++ q ∈ T) (q : List A) : (inside S q).map (r ++ ·) = inside T (r ++ q) := by
  refine ris_ext (rlt_to O) (ris_under r (ris_inside WS q)) (ris_inside W _) fun o => ?_
  rw [List.mem_map, mem_inside]
  constructor
  · rintro ⟨c, hc, rfl⟩
    obtain ⟨h1, x, rfl⟩ := mem_inside.mp hc
    exact ⟨(hS _).mp h1, x, by rw [List.append_assoc]⟩
  · rintro ⟨h1, x, rfl⟩
    refine ⟨q ++ [x], mem_inside.mpr ⟨(hS _).mpr (by rw [← List.append_assoc]; exact h1), x, rfl⟩, by rw [List.append_assoc]⟩
theorem lesser_ends (O : TO lt) (W : Tree lt T) {S : List (List A)} (WS : Tree lt S) {r : List A} (hS : ∀ q, q ∈ S ↔ r ++ q ∈ T) :
    (ends S).map (r ++ ·) = (ends T).filter fun o => decide (o.take r.length = r) := by
  refine ris_ext (rlt_to O) (ris_under r (ris_ends WS)) (List.Pairwise.filter _ (ris_ends W)) fun o => ?_
  rw [List.mem_map, List.mem_filter, decide_eq_true_eq, take_iff]
  have key : ∀ q, inside S q = [] ↔ inside T (r ++ q) = [] := fun q => by
    rw [← lesser_inside O W WS hS q]
    simp
  constructor
  · rintro ⟨q, hq, rfl⟩
    obtain ⟨h1, h2⟩ := mem_ends.mp hq
    exact ⟨mem_ends.mpr ⟨(hS _).mp h1, (key q).mp h2⟩, q, rfl⟩
  · rintro ⟨h1, q, rfl⟩
    obtain ⟨h1, h2⟩ := mem_ends.mp h1
    exact ⟨q, mem_ends.mpr ⟨(hS _).mpr h1, (key q).mpr h2⟩, rfl⟩
end
end Ho
end

section
set_option Elab.async false
set_option linter.all false
set_option maxRecDepth 100000
set_option maxHeartbeats 4000000
/-! K2Sort: lists of tuples of texts, the empty one among them, sorted. -/
namespace Ho
open PySem PySem.W PySem.SeqAt PySem.Calls PyProof.Rows

abbrev Rm := List Str
/-- a room as data -/
def enc (r : Rm) : PyData := .tuple (r.map PyData.str)
def slt (x y : Str) : Bool := decide (x.cps.toList < y.cps.toList)
theorem slt_to : TO slt where
  irr := fun x => decide_eq_false (List.lt_irrefl _)
  tr := fun x y z h1 h2 => decide_eq_true (List.lt_trans (of_decide_eq_true h1) (of_decide_eq_true h2))
  tot := fun x y h => by
    by_cases a : x.cps.toList < y.cps.toList
    · exact .inl (decide_eq_true a)
    · by_cases b : y.cps.toList < x.cps.toList
      · exact .inr (decide_eq_true b)
      · exact absurd (str_of_cps (List.le_antisymm (List.not_lt.mp b) (List.not_lt.mp a))) h
abbrev rmLt : Rm → Rm → Bool := rlt slt
theorem rm_to : TO rmLt := rlt_to slt_to

theorem alike_strs : ∀ xs ys : List Str, alikeAll (xs.map .str) (ys.map .str) = true
  | [], _ => by simp [alikeAll]
  | _ :: _, [] => by simp [alikeAll]
  | x :: xs, y :: ys => by
    show alikeAll (.str x :: xs.map .str) (.str y :: ys.map .str) = true
    rw [alikeAll, alike_strs xs ys]
    simp [alike]
theorem alike_rooms (a b : Rm) : alike (enc a) (enc b) = true := by
  unfold enc
  simp only [alike]
  exact alike_strs a b
theorem depth_strs : ∀ xs : List Str, PyData.depthAll (xs.map .str) = 0
  | [] => by simp [PyData.depthAll]
  | x :: xs => by
    show PyData.depthAll (.str x :: xs.map .str) = 0
    rw [PyData.depthAll, depth_strs xs]
    simp [PyData.depth]
theorem depth_room (r : Rm) : (enc r).depth = 1 := by
  unfold enc
  rw [PyData.depth, depth_strs]
theorem rowLt_strs : ∀ xs ys : List Str, rowLt (xs.map .str) (ys.map .str) = rmLt xs ys
  | [], [] => lex_irrefl _
  | [], y :: ys => by
    show rowLt [] (PyData.str y :: ys.map .str) = true
    unfold rowLt
    rw [toks_all_cons]
    simp only [keyToksAll]
    rw [lex_diff (O := itemOrd) (by simp)]
    rfl
  | x :: xs, [] => by
    show rowLt (PyData.str x :: xs.map .str) [] = false
    unfold rowLt
    rw [toks_all_cons]
    simp only [keyToksAll]
    rw [lex_diff (O := itemOrd) (by simp)]
    rfl
  | x :: xs, y :: ys => by
    have e : rowLt (PyData.str x :: xs.map .str) (PyData.str y :: ys.map .str) = if x = y then rowLt (xs.map .str) (ys.map .str) else slt x y := by
      unfold rowLt
      rw [dataLt_cons (by simp [alike]), dataLt_str]
      by_cases q : x = y
      · rw [if_pos q, if_pos (by rw [q]; simp [PyData.eqv])]
      · rw [if_neg q, if_neg (by simp [PyData.eqv, q])]
        rfl
    show rowLt (PyData.str x :: xs.map .str) (PyData.str y :: ys.map .str) = _
    rw [e]
    by_cases h : x = y
    · subst h
      rw [if_pos rfl, rowLt_strs xs ys]
      exact (rlt_same (lt := slt) x xs ys).symm
    · rw [if_neg h]
      exact (rlt_diff (lt := slt) h xs ys).symm
theorem dataLt_rooms (a b : Rm) : dataLt (enc a) (enc b) = rmLt a b := by
  unfold enc
  rw [dataLt_tuple]
  exact rowLt_strs a b

section
variable {prog : Program} {w : World} {A : Around} {E : Value → Shared → Prop} {s : Shared}
/-- sorting asks a tuple's own less-than -/
theorem own_lt {ra rb : Rm} {a b : Value} {as bs : List Addr} {Q : Bool → Shared → Prop} (ha : Reads s.heap a (enc ra) as) (hb : Reads s.heap b (enc rb) bs) (hu : A.units + 1 < cLine) (hq : Q (rmLt ra rb) s) :
    wpAny (model prog w) A (oneLt' true a b) Q E s := by
  rw [← dataLt_rooms] at hq
  have hal : alikeAll (ra.map PyData.str) (rb.map PyData.str) = true := alike_strs ra rb
  have hm : A.units + min (enc ra).depth (enc rb).depth < cLine := by rw [depth_room, depth_room]; exact hu
  unfold enc at ha hb hq hm
  generalize ra.map PyData.str = xs at *
  generalize rb.map PyData.str = ys at *
  cases ha with
  | @tuple l o vs n _ _ h1 h2 h3 h4 =>
    cases hb with
    | @tuple l' o' vs' n' _ _ k1 k2 k3 k4 =>
      have n1 : vs.size = xs.length := by simpa using ReadsAll.length _ _ _ h4
      have n2 : vs'.size = ys.length := by simpa using ReadsAll.length _ _ _ k4
      rw [dataLt_tuple, ← firstLt_toks xs ys hal, ← n1, ← n2] at hq
      have j0 : ∀ (j : Nat) (h1 : j < vs.size) (h2 : j < vs'.size), EqAt A.in1 s vs[j] vs'[j] (pairEq xs ys j) := fun j j1 j2 => by
        have := eqAt_alikeAll xs ys A.in1 s vs.toList vs'.toList _ _ h4 k4 hal (room_in hm) j (by simpa using j1) (by simpa using j2)
        simpa using this
      have j1 : ∀ (j : Nat) (h1 : j < vs.size) (h2 : j < vs'.size), pairEq xs ys j = false → RcLt A.in1 s vs[j] vs'[j] (dataLt (xs.getD j .none) (ys.getD j .none)) := fun j j1 j2 hj => by
        have := rcLt_alikeAll xs ys A.in1 s vs.toList vs'.toList _ _ h4 k4 hal (room_in hm) j (by simpa using j1) (by simpa using j2) hj
        simpa using this
      rw [oneLt'_eq]
      simp only [if_true]
      refine wpAny_bind (wpAny_cRoomFor (room_here hm) ?_)
      obtain ⟨cls, dd, data, sl⟩ := o
      obtain ⟨cls2, dd2, data2, sl2⟩ := o'
      simp only at h2 h3 k2 k3
      subst h2 h3 k2 k3
      refine wpAny_bind (wpAny_callSpecialIfBound?_slot (T := "tuple") ⟨_, h1, rfl⟩ F.slot_tuple_lt (call_meets F.slot_tuple_lt ⟨_, h1, rfl⟩ F.entry_tuple_lt (F.args_tuple_lt_2 _ _)
        (tuple_ltAt l l' vs vs' n n' dd dd2 sl sl2 (pairEq xs ys) fun j => dataLt (xs.getD j .none) (ys.getD j .none)) ⟨h1, k1, j0, j1, ?_⟩))
      exact wpAny_truthy_bool hq

/-- what a list of tuples of texts tells of its first items -/
theorem firsts_of {M : Model} : ∀ {vs : List Value} {bs : List Rm} {Q : List (Option Value) → Shared → Prop}, EachIs (fun v r => ∃ as, Reads s.heap v (enc r) as) vs bs → (∀ fs : List (Option Value), fs.map (·.isSome) = bs.map (fun r => !r.isEmpty) → Q fs s) →
    wpAny M A (vs.mapM firstOfTuple') Q E s
  | _, _, _, .nil, h => by
    rw [List.mapM_nil]
    exact wpAny_pure (h [] rfl)
  | _, _, Q, .cons (b := r) ⟨as, ra⟩ t, h => by
    rw [List.mapM_cons]
    unfold enc at ra
    cases ra with
    | @tuple a o xs n _ _ ho hc hd hr =>
      refine wpAny_bind ?_
      rw [kas_first_eq]
      refine wpAny_bind (Looks.here (show Looks M s.heap (typeOf (.ref a)) o.cls from (Looks.ld ho).andThen .now) ?_)
      rw [hc, if_neg (by first | decide | simp)]
      refine wpAny_bind (listItems_at ho hd (wpAny_pure ?_))
      refine wpAny_bind (firsts_of (Q := fun bs s' => wpAny M A (pure (xs[0]? :: bs)) Q E s') t fun fs hf => wpAny_pure (h _ ?_))
      rw [List.map_cons, List.map_cons, hf]
      have hl : xs.size = r.length := by simpa using ReadsAll.length _ _ _ hr
      have e1 : (xs[0]?).isSome = !r.isEmpty := by
        cases r with
        | nil =>
          have : xs.size = 0 := hl
          simp [Array.getElem?_eq_none, this]
        | cons x r =>
          have : 0 < xs.size := by rw [hl]; exact Nat.succ_pos _
          simp [Array.getElem?_eq_getElem this]
      rw [e1]

theorem tup_type {M : Model} {v : Value} {r : Rm} {as : List Addr} (h : Reads s.heap v (enc r) as) : Looks M s.heap (typeOf v) (.type "tuple") := looks_reads h
/-- the kind that sorting finds where an empty tuple is among them -/
theorem kind_mixed {M : Model} {vs : List Value} {bs : List Rm} {Q : SortKind → Shared → Prop} (e : EachIs (fun v r => ∃ as, Reads s.heap v (enc r) as) vs bs) (h2 : 2 ≤ vs.length) (hm : [] ∈ bs) (h : Q (if bs.head? = some [] then oneType' else general') s) :
    wpAny M A (keyKind' vs.toArray) Q E s := by
  rw [keyKind'_eq, List.mapM_toArray, map_eq_pure_bind]
  refine wpAny_bind (wpAny_bind (firsts_of e fun fs hf => wpAny_pure ?_))
  have hall : ¬ (fs.toArray.all fun x => x.isSome) = true := by
    intro q
    simp only [List.all_toArray, List.all_eq_true] at q
    have m : false ∈ fs.map (·.isSome) := by
      rw [hf]
      exact List.mem_map.mpr ⟨[], hm, rfl⟩
    obtain ⟨f, f1, f2⟩ := List.mem_map.mp m
    rw [q f f1] at f2
    cases f2
  rw [if_neg hall]
  cases bs with
  | nil => cases hm
  | cons r bs =>
    cases fs with
    | nil => cases hf
    | cons f fs =>
      have hf0 : f.isSome = !r.isEmpty := by
        have q := congrArg List.head? hf
        simpa using q
      have e0 : ((f :: fs).toArray[0]?.bind id) = f := by simp
      rw [e0]
      cases r with
      | cons x r =>
        rw [if_pos (by rw [hf0]; rfl)]
        rw [if_neg (by simp)] at h
        exact wpAny_pure h
      | nil =>
        rw [if_neg (by rw [hf0]; simp)]
        rw [if_pos (by simp)] at h
        rw [oneTypeOnly'_eq, List.mapM_toArray, map_eq_pure_bind]
        refine wpAny_bind (wpAny_bind (wpAny_bind (kas_mapM (r := Value.type "tuple") _ (fun v hv Q' hq => ?_) (wpAny_pure ?_))))
        · obtain ⟨r', _, as, hr⟩ := e.left v hv
          exact (tup_type hr).here hq
        · obtain ⟨v0, vr, rfl⟩ : ∃ v0 vr, vs = v0 :: vr := by
            match vs, h2 with
            | v0 :: vr, _ => exact ⟨v0, vr, rfl⟩
          have a1 : ((List.map (fun _ => Value.type "tuple") (v0 :: vr)).toArray.all fun x => x == Value.type "tuple") = true := by
            simp only [List.all_toArray, List.all_map, List.all_eq_true]
            intro _ _
            rfl
          have a0 : (List.map (fun _ => Value.type "tuple") (v0 :: vr)).toArray[0]? = some (Value.type "tuple") := by simp
          rw [a0]
          simp only [a1, if_true]
          exact wpAny_pure (wpAny_pure h)

theorem all_alike (bs : List Rm) : AllAlike (bs.map enc) := AllAlike.of alike_rooms
theorem each_enc {bs : List Rm} {vs : List Value} (e : EachIs (fun v r => ∃ as, Reads s.heap v (enc r) as) vs bs) : EachIs (fun v d => ∃ as, Reads s.heap v d as) vs (bs.map enc) := each_map (R := fun v d => ∃ as, Reads s.heap v d as) enc e

/-- tuples of texts can be sorted -/
theorem sorts_rooms {vs : List Value} {bs : List Rm} (e : EachIs (fun v r => ∃ as, Reads s.heap v (enc r) as) vs bs) (hu : A.units + 1 < cLine) : SortsAt prog w A s (dataKind s.heap (bs.map enc)) vs := by
  have hdep : ∀ d, d ∈ bs.map enc → A.units + d.depth < cLine := fun d hd => by
    obtain ⟨r, _, rfl⟩ := List.mem_map.mp hd
    rw [depth_room]
    exact hu
  by_cases hm : [] ∈ bs
  · refine ⟨fun v hv => ?_, if bs.head? = some [] then oneType' else general', ?_, fun h2 E Q hq => kind_mixed e h2 hm hq⟩
    · obtain ⟨d, hd, as, r⟩ := (each_enc e).left v hv
      exact ⟨_, dataKind_some (all_alike bs) hd r⟩
    · intro E x y a b Q ha hb hq
      obtain ⟨d, as, hd, ra, rfl⟩ := dataKind_inv ha
      obtain ⟨d', as', hd', rb, rfl⟩ := dataKind_inv hb
      obtain ⟨r, _, rfl⟩ := List.mem_map.mp hd
      obtain ⟨r', _, rfl⟩ := List.mem_map.mp hd'
      have hq' : Q (dataLt (enc r) (enc r')) s := hq
      split
      · rw [keyLt'_oneType]
        rw [dataLt_rooms] at hq'
        exact own_lt ra rb hu hq'
      · show wpAny _ _ (oneLt' false x y) _ _ _
        exact oneLt_alike (fun z => absurd z Bool.false_ne_true) ra rb (alike_rooms r r') (by simp [enc]) (by rw [depth_room, depth_room]; exact hu) hq'
  · refine SortsAt.data (each_enc e) (all_alike bs) (.inl fun d hd => ?_) hdep
    obtain ⟨r, hr, rfl⟩ := List.mem_map.mp hd
    cases r with
    | nil => exact absurd hr hm
    | cons x r => exact ⟨.str x, r.map .str, rfl⟩
/-- the order of the sorted list -/
theorem sorted_le (bs : List Rm) : (bs.mergeSort (dataLe false enc)).Pairwise fun a b => rmLt b a = false := by
  have hle : ∀ a b, dataLe false enc a b = !rmLt b a := fun a b => by
    show (!dataLt (enc b) (enc a)) = _
    rw [dataLt_rooms]
  refine List.Pairwise.imp (fun {a b} h => ?_) (List.pairwise_mergeSort (le := dataLe false enc) (fun a b c h1 h2 => ?_) (fun a b => ?_) bs)
  · rw [hle] at h
    simpa using h
  · rw [hle] at h1 h2 ⊢
    simp only [Bool.not_eq_true'] at h1 h2 ⊢
    cases q : rmLt c a with
    | false => rfl
    | true =>
      by_cases e : a = b
      · subst e
        rw [q] at h2
        cases h2
      · rcases rm_to.tot a b e with z | z
        · have := rm_to.tr c a b q z
          rw [h2] at this
          cases this
        · rw [h1] at z
          cases z
  · rw [hle, hle]
    cases q : rmLt b a with
    | false => rfl
    | true =>
      rw [rm_to.asym q]
      rfl
end

/-! ### at the layer: values that are rooms -/
end Ho
namespace Ho
open PySem PySem.Spec PyProof.Rows L2
/-- at v stands the tuple of these names -/
def RoomAt (H : Hp) (v : V) (r : Rm) : Prop := ∃ t, v = .ref t ∧ H t = some (.tup (r.map V.str))
abbrev Rooms (H : Hp) : List V → List Rm → Prop := Paired (RoomAt H)
theorem RoomAt.same {H H' : Hp} {v : V} {r : Rm} (h : RoomAt H v r) (k : ∀ b xs, H b = some (.tup xs) → H' b = some (.tup xs)) : RoomAt H' v r := by
  obtain ⟨t, e, h⟩ := h
  exact ⟨t, e, k _ _ h⟩
theorem Rooms.same {H H' : Hp} {xs : List V} {rs : List Rm} (h : Rooms H xs rs) (k : ∀ b xs, H b = some (.tup xs) → H' b = some (.tup xs)) : Rooms H' xs rs := Paired.mapP h fun _ _ q => q.same k
theorem dpStrs {K : PySem.W.Frag} {H : Hp} : ∀ r : Rm, DpAll K H (r.map V.str) (r.map PyData.str)
  | [] => .nil
  | x :: r => .cons (.str x) (dpStrs r)
theorem RoomAt.dp {K : PySem.W.Frag} {H : Hp} {v : V} {r : Rm} (h : RoomAt H v r) : Dp K H v (enc r) := by
  obtain ⟨t, rfl, h⟩ := h
  exact .tup (.inl (.inl h)) (dpStrs r)
theorem Rooms.dp {K : PySem.W.Frag} {H : Hp} : ∀ {xs : List V} {rs : List Rm}, Rooms H xs rs → DpAll K H xs (rs.map enc)
  | _, _, .nil => .nil
  | _, _, .cons h t => .cons h.dp (Rooms.dp t)
end Ho
end

section
set_option Elab.async false
set_option linter.all false
set_option maxRecDepth 100000
set_option maxHeartbeats 4000000
/-! K3a: the tables of sets with any mask that comes here: each search meets each slot, laying anew ends well. -/
namespace Ho
open PySem PySem.Spec PyProof.Rows L2

/-- i -> 5 i + 1 goes all round -/
structure Full (m : Nat) : Prop where
  all : ∀ j, j ≤ m → ∃ b, b ≤ m ∧ lcgN m b = j
  round : lcgN m (m + 1) = 0
theorem full_of (m : Nat) (h : ((List.range (m + 1)).all fun j => (List.range (m + 1)).any fun b => lcgN m b == j) = true) (r : lcgN m (m + 1) = 0) : Full m := by
  refine ⟨fun j hj => ?_, r⟩
  have ⟨b, in_range, same⟩ := List.any_eq_true.mp (List.all_eq_true.mp h j (List.mem_range.mpr (Nat.lt_succ_of_le hj)))
  exact ⟨b, Nat.lt_succ_iff.mp (List.mem_range.mp in_range), eq_of_beq same⟩
/-- the masks of small sets -/
def Msk (m : Nat) : Prop := m = 7 ∨ m = 15 ∨ m = 31 ∨ m = 63 ∨ m = 127
theorem Msk.full {m : Nat} (h : Msk m) : Full m := by
  rcases h with rfl | rfl | rfl | rfl | rfl
  · exact full_of 7 (by decide +kernel) (by decide +kernel)
  · exact full_of 15 (by decide +kernel) (by decide +kernel)
  · exact full_of 31 (by decide +kernel) (by decide +kernel)
  · exact full_of 63 (by decide +kernel) (by decide +kernel)
  · exact full_of 127 (by decide +kernel) (by decide +kernel)
theorem Msk.odd {m : Nat} (h : Msk m) : m % 2 = 1 := by
  rcases h with rfl | rfl | rfl | rfl | rfl <;> rfl
theorem Msk.le {m : Nat} (h : Msk m) : m ≤ 127 := by
  rcases h with rfl | rfl | rfl | rfl | rfl <;> decide
theorem Msk.of {m : Nat} (h : MaskOk m) : Msk m := by
  rcases h with rfl | rfl | rfl
  · exact .inl rfl
  · exact .inr (.inr (.inl rfl))
  · exact .inr (.inr (.inr (.inr rfl)))
/-- the sizes above small numbers -/
theorem size_above {k : Nat} (h : k ≤ 126) : Msk (SetTable.sizeAbove k - 1) ∧ SetTable.sizeAbove k ≤ 128 ∧ k < SetTable.sizeAbove k := by
  have key : ((List.range 127).all fun k => ([7, 15, 31, 63, 127].contains (SetTable.sizeAbove k - 1)) && decide (SetTable.sizeAbove k ≤ 128) && decide (k < SetTable.sizeAbove k)) = true := by decide +kernel
  have q := List.all_eq_true.mp key k (List.mem_range.mpr (by omega))
  rw [Bool.and_eq_true, Bool.and_eq_true, decide_eq_true_eq, decide_eq_true_eq] at q
  refine ⟨?_, q.1.2, q.2⟩
  have z := q.1.1
  simp only [List.contains_cons, List.contains_nil, Bool.or_false, Bool.or_eq_true, beq_iff_eq] at z
  exact z

section
variable {m : Nat}
theorem Full.mod (F : Full m) : ∀ k, lcgN m (m + 1 + k) = lcgN m k
  | 0 => F.round
  | k + 1 => congrArg (fun x => (x * 5 + 1) % (m + 1)) (F.mod k)
theorem Full.reach (F : Full m) {i j : Nat} (hi : i ≤ m) (hj : j ≤ m) : ∃ k, k ≤ m ∧ lcgI m i k = j := by
  obtain ⟨a, ha, rfl⟩ := F.all i hi
  obtain ⟨b, hb, rfl⟩ := F.all j hj
  by_cases c : b < a
  · exact ⟨b + (m + 1) - a, by omega, by rw [lcgN_add, show a + (b + (m + 1) - a) = m + 1 + b by omega, F.mod]⟩
  · exact ⟨b - a, by omega, by rw [lcgN_add, show a + (b - a) = b by omega]⟩
/-- a run that begins at j comes before long -/
theorem Full.run (F : Full m) (h : Int) {j : Nat} (hj : j ≤ m) : ∃ n, n ≤ m + 12 ∧ runI m (SetTable.bits h) n = j := by
  obtain ⟨k, hk, e⟩ := F.reach (runI_le m (SetTable.bits h) 12) hj
  exact ⟨12 + k, by omega, (runI_tail (bits_lt h) k).trans e⟩
theorem Full.meets (F : Full m) (h : Int) {j : Nat} (hj : j ≤ m) : ∃ k, k < 10 * SetTable.turns m ∧ way m h k = j := by
  have ⟨n, early, begins⟩ := F.run h hj
  have ⟨k, less, same⟩ := run_nth m (SetTable.bits h) n
  exact ⟨k, by unfold SetTable.turns; omega, (congrArg SetTable.Probe.j same).trans begins⟩
theorem way_in (h : Int) (k : Nat) : way m h k ≤ m := by
  have low : SetTable.bits h % (m + 1) ≤ m := Nat.lt_succ_iff.mp (Nat.mod_lt _ m.succ_pos)
  have top := runEnd_bd low
  refine Nat.le_trans (Nat.le_add_right _ _) (nth_in k (runAt m _ _) ?_)
  show SetTable.bits h % (m + 1) + (SetTable.runEnd m _ - _) ≤ m
  omega
/-- the first empty slot of a search -/
theorem Full.free (F : Full m) (ps : List Nat) (hl : ps.length ≤ m) (h : Int) : ∃ K, K < 10 * SetTable.turns m ∧ way m h K ∉ ps ∧ ∀ k, k < K → way m h k ∈ ps := by
  obtain ⟨j, hj, hn⟩ := st_missing ps (m + 1) (Nat.lt_succ_of_le hl)
  obtain ⟨k, hk, e⟩ := F.meets h (Nat.le_of_lt_succ hj)
  obtain ⟨K, h1, h2, h3⟩ := st_least (p := fun k => way m h k ∉ ps) k (by show way m h k ∉ ps; rw [e]; exact hn)
  exact ⟨K, Nat.lt_of_le_of_lt h1 hk, h2, fun k' hk' => Classical.byContradiction fun c => h3 k' hk' c⟩
/-- laying finds a free place -/
theorem Full.find (F : Full m) (owner : Array (Option Nat)) (h : Int) {j : Nat} (hj : j ≤ m) (hf : oAt owner j = none) :
    ∃ p, SetTable.layClean.free m owner (SetTable.turns m) (SetTable.bits h % (m + 1)) (SetTable.bits h) = some p ∧ p ≤ m ∧ oAt owner p = none := by
  have ⟨n, early, begins⟩ := F.run h hj
  generalize place : off m (SetTable.bits h % (m + 1)) (SetTable.bits h) n = q
  have comes : way m h q = j := by
    subst place
    unfold way
    rw [nth_off, itL_run]
    exact begins
  obtain ⟨K, before, free, taken⟩ := st_least (p := fun k => oAt owner (way m h k) = none) q (comes ▸ hf)
  refine ⟨way m h K, free_spec m owner _ n _ _ K (by unfold SetTable.turns; omega) (place ▸ before) (fun k hk => ?_) ?_, way_in h K, free⟩
  · show (oAt owner (way m h k)).isNone = false
    rw [Option.isNone_eq_false_iff]
    exact Option.isSome_iff_ne_none.mpr (taken k hk)
  exact Option.isNone_iff_eq_none.mpr free

/-- n things sit in m + 1 places -/
structure Sits (m n : Nat) (owner : Array (Option Nat)) : Prop where
  sz : owner.size = m + 1
  all : ∀ k, k < n → ∃ j, j ≤ m ∧ oAt owner j = some k
  ps : ∃ ps : List Nat, ps.length = n ∧ ∀ j, j ≤ m → oAt owner j ≠ none → j ∈ ps
theorem Sits.none (m : Nat) : Sits m 0 (Array.replicate (m + 1) Option.none) :=
  ⟨by simp, fun k hk => absurd hk (Nat.not_lt_zero _), ⟨[], rfl, fun j hj e => absurd (oAt_init hj) e⟩⟩
theorem Sits.more (F : Full m) {n : Nat} {owner : Array (Option Nat)} (W : Sits m n owner) (hl : n ≤ m) (h : Int) :
    ∃ p, SetTable.layClean.free m owner (SetTable.turns m) (SetTable.bits h % (m + 1)) (SetTable.bits h) = some p ∧ Sits m (n + 1) (owner.setIfInBounds p (some n)) := by
  obtain ⟨ps, hps, hin⟩ := W.ps
  have ⟨j0, h0, hn0⟩ := st_missing ps m.succ (by omega)
  have hj0 : oAt owner j0 = Option.none := Classical.byContradiction fun c => hn0 (hin j0 (Nat.le_of_lt_succ h0) c)
  obtain ⟨p, e, hp, hf⟩ := F.find owner h (Nat.le_of_lt_succ h0) hj0
  have hps' : p < owner.size := by rw [W.sz]; exact Nat.lt_succ_of_le hp
  refine ⟨p, e, by rw [Array.size_setIfInBounds]; exact W.sz, fun k hk => ?_, ⟨p :: ps, by rw [List.length_cons, hps], fun j hj q => ?_⟩⟩
  · by_cases c : k < n
    · obtain ⟨j, hj, q⟩ := W.all k c
      refine ⟨j, hj, ?_⟩
      rw [oAt_set_ne _ (fun z => by rw [z, hf] at q; cases q)]
      exact q
    · have ek : k = n := by omega
      subst ek
      exact ⟨p, hp, oAt_set_self _ hps'⟩
  · by_cases c : j = p
    · rw [c]
      exact List.mem_cons_self
    · rw [oAt_set_ne _ c] at q
      exact List.mem_cons_of_mem _ (hin j hj q)
theorem Sits.fold (F : Full m) : ∀ (rest : List Int) (n : Nat) (owner : Array (Option Nat)), Sits m n owner → n + rest.length ≤ m →
    ∃ owner', rest.foldl (stepF m) (some (owner, n)) = some (owner', n + rest.length) ∧ Sits m (n + rest.length) owner'
  | [], n, owner, W, _ => ⟨owner, rfl, W⟩
  | h :: rest, n, owner, W, hl => by
    rw [List.length_cons] at hl ⊢
    obtain ⟨p, e, W2⟩ := W.more F (by omega) h
    obtain ⟨owner', f, W3⟩ := Sits.fold F rest (n + 1) _ W2 (by omega)
    rw [show n + (rest.length + 1) = n + 1 + rest.length by omega]
    exact ⟨owner', by rw [List.foldl_cons, stepF_some e]; exact f, W3⟩

/-- laying n hashes into an empty table -/
theorem laid_ok (F : Full m) {hs : Array Int} (hn : hs.size ≤ m) (finger moves : Nat) (led plain : Bool) :
    ∃ t order, SetTable.laid m finger moves led plain hs = some (t, order) ∧ order.toList.Perm (List.range hs.size) ∧ L2.Ris t.place.toList ∧ t.place.size = hs.size ∧ t.mask = m ∧ t.led = led ∧ t.dummies = #[] := by
  obtain ⟨owner, f, W⟩ := Sits.fold F hs.toList 0 _ (Sits.none m) (by rw [Array.length_toList]; omega)
  rw [Nat.zero_add, Array.length_toList] at f W
  have e : SetTable.layClean m hs = some owner := by
    rw [layClean_eq, f]
    rfl
  have ris := ris_live (fun j => owner.getD j Option.none) (List.range (m + 1)) (by
    unfold L2.Ris
    first | exact List.pairwise_lt_range | exact List.pairwise_lt_range _)
  have r1 : L2.Ris ((liveOf m owner).map (·.1)) := ris.1
  have nd : ((liveOf m owner).map (·.1)).Nodup := List.Pairwise.imp (fun h => Nat.ne_of_lt h) r1
  have cover : ∀ k, k < hs.size → k ∈ (liveOf m owner).map (·.2) := fun k hk => by
    obtain ⟨j, b1, b2⟩ := W.all k hk
    exact List.mem_map.mpr ⟨(j, k), (mem_live W.sz).2 ⟨b1, b2⟩, rfl⟩
  have hlen : (liveOf m owner).length = hs.size := by
    obtain ⟨ps, p1, p2⟩ := W.ps
    have a := nat_nodup_len ((liveOf m owner).map (·.1)) ps nd fun x hx => by
      obtain ⟨⟨y, k⟩, hq, rfl⟩ := List.mem_map.mp hx
      obtain ⟨b1, b2⟩ := (mem_live W.sz).1 hq
      exact p2 y b1 (by rw [b2]; exact fun z => nomatch z)
    have b := nat_nodup_len (List.range hs.size) ((liveOf m owner).map (·.2)) List.nodup_range fun k hk => cover k (List.mem_range.mp hk)
    rw [List.length_map, p1] at a
    rw [List.length_map, List.length_range] at b
    omega
  have hr : SetTable.laid m finger moves led plain hs = some ({ mask := m, place := ((liveOf m owner).map (·.1)).toArray, dummies := #[], finger, led, moves, plain }, ((liveOf m owner).map (·.2)).toArray) := by
    unfold SetTable.laid
    rw [e]
    rfl
  refine ⟨_, _, hr, perm_range hs.size _ (by show ((liveOf m owner).map (·.2)).length = _; rw [List.length_map, hlen]) fun k hk => cover k hk, r1, ?_, rfl, rfl, rfl⟩
  show ((liveOf m owner).map (·.1)).toArray.size = hs.size
  rw [List.size_toArray, List.length_map, hlen]
theorem relaid_as (t : SetTable) (hs : Array Int) (wanted : Nat) : t.relaid hs wanted = SetTable.laid (SetTable.sizeAbove wanted - 1) t.finger (t.movedTo (SetTable.sizeAbove wanted - 1)) t.led t.plain hs := rfl
end
end Ho
end

section
set_option Elab.async false
set_option linter.all false
set_option maxRecDepth 100000
set_option maxHeartbeats 4000000
/-! K3b: sets of tuples of ints and texts: the search, adding, set(xs). -/
namespace Ho
open PySem PySem.Spec PyProof.Rows L2

abbrev Ky := List L2.Key
abbrev khash (P : Program) (w : World) (k : Ky) : Int := tupleKeyHash (mixKind P w) k
/-- at a stands the tuple k -/
abbrev IsK (P : Program) (w : World) (h : Heap) (k : Ky) (a : Addr) : Prop := IsTupleKey (mixKind P w) h k a

section
variable {P : Program} {w : World} {A : Around} {E : Value → Shared → Prop} {s : Shared}

/-- a loop that leaves the state alone: each turn goes on, or leaves with something that may be left with -/
theorem loop_out {M : Model} {β : Type} {f : Value → β → Sem (ForInStep β)} (Go Out : β → Prop) {Q : β → Shared → Prop} (q : ∀ r, Go r ∨ Out r → Q r s) : ∀ (xs : List Value) (r : β), Go r →
    (∀ v ∈ xs, ∀ r, Go r → wpAny M A (f v r) (fun o s2 => s2 = s ∧ match o with | .yield r2 => Go r2 | .done r2 => Out r2) E s) → wpAny M A (forIn xs r f) Q E s
  | [], r, go, _ => by
    rw [List.forIn_nil]
    exact wpAny_pure (q r (.inl go))
  | v :: xs, r, go, each => by
    rw [List.forIn_cons]
    refine wpAny_bind (wpAny_mono (each v List.mem_cons_self r go) (fun o s2 out => ?_) fun _ _ z => z)
    obtain ⟨here, h⟩ := out
    have here := here.symm
    subst here
    cases o with
    | done r2 => exact wpAny_pure (q r2 (.inr h))
    | yield r2 => exact loop_out Go Out q xs r2 h fun u hu => each u (List.mem_cons_of_mem _ hu)
/-- a number or a text -/
inductive Flat : Value → Prop where
  | num (i : Int) (t : Tok) : Flat (.int i t)
  | txt (x : Str) (t : Tok) : Flat (.str x t)
theorem items_flat {k : Ky} {vs : List Value} (h : ItemsAre (mixKind P w) k vs) : ∀ v ∈ vs, Flat v := by
  induction h with
  | nil => exact fun _ z => nomatch z
  | cons one _ ih =>
    intro v hv
    cases hv with
    | tail _ hv => exact ih v hv
    | head =>
      rcases keyIs_shape one with ⟨i, t, _, rfl⟩ | ⟨x, t, _, rfl⟩
      · exact .num i t
      · exact .txt x t
theorem Flat.noClass {v : Value} (h : Flat v) (n : Nat) : ofAClassStatement n v = pure false := by cases h <;> cases n <;> rfl
theorem Flat.byValue {v : Value} (h : Flat v) (n : Nat) : ∃ b, hashByValue n v = pure b := by
  cases h with
  | num => exact ⟨true, by cases n <;> rfl⟩
  | txt => exact ⟨false, by cases n <;> rfl⟩
/-- a key is of no class statement -/
theorem class_key {k : Ky} {b : Addr} {Q : Bool → Shared → Prop} (hk : IsK P w s.heap k b) (h : Q false s) : wpAny (model P w) A (ofAClassStatement 8 (.ref b)) Q E s := by
  have kind := hk.typeIs
  have ⟨o, items, n, at_b, _, data, are⟩ := hk
  unfold ofAClassStatement
  refine wpAny_bind (wpAny_typeOf kind ?_)
  have tuple : (("tuple" : String) == "tuple") = true := rfl
  simp only [tuple, if_true, Bool.not_true, Bool.false_eq_true, if_false]
  refine wpAny_bind (m := seqItems? (.ref b)) (wpAny_seqItems at_b data (wpAny_bind (m := forIn items _ _) ?_))
  rw [← Array.forIn_toList]
  refine loop_out (fun r => r.1 = none) (fun _ => False) (fun r go => ?_) _ _ rfl fun v hv r go => ?_
  · obtain ⟨r1, r2⟩ := r
    obtain rfl : r1 = none := go.resolve_right id
    exact wpAny_pure h
  · rw [(items_flat are v hv).noClass 7]
    exact wpAny_bind (wpAny_pure (wp_if_neg Bool.false_ne_true (wpAny_pure ⟨rfl, rfl⟩)))
/-- whether its hash hangs on the run: either way -/
theorem hash_key {k : Ky} {b : Addr} {Q : Bool → Shared → Prop} (hk : IsK P w s.heap k b) (h : ∀ c, Q c s) : wpAny (model P w) A (hashByValue 8 (.ref b)) Q E s := by
  have ⟨o, items, n, at_b, _, data, are⟩ := hk
  unfold hashByValue
  refine wpAny_bind (wpAny_specialOf hk.typeIs F.slot_tuple_hash.lookup ?_)
  refine wpAny_bind (m := seqItems? (.ref b)) (wpAny_seqItems at_b data (wpAny_bind (m := forIn items _ _) ?_))
  rw [← Array.forIn_toList]
  refine loop_out (fun r => r.1 = none) (fun r => ∃ c, r.1 = some c) (fun r go => ?_) _ _ rfl fun v hv r go => ?_
  · obtain ⟨r1, r2⟩ := r
    rcases go with go | ⟨c, go⟩
    · obtain rfl : r1 = none := go
      exact wpAny_pure (h _)
    · obtain rfl : r1 = some c := go
      exact wpAny_pure (h _)
  · obtain ⟨c, e⟩ := (items_flat are v hv).byValue 7
    rw [e]
    refine wpAny_bind (wpAny_pure ?_)
    cases c with
    | true => exact wp_if_neg (by decide) (wpAny_pure ⟨rfl, rfl⟩)
    | false => exact wp_if_pos rfl (wpAny_pure ⟨rfl, _, rfl⟩)
/-- a search among such tuples shows nothing -/
theorem seen_keys {k : Ky} {b : Addr} {Q : Bool → Shared → Prop} (hk : IsK P w s.heap k b) {ys : List Value} (hy : ∀ y ∈ ys, ∃ k' c, y = Value.ref c ∧ IsK P w s.heap k' c) (h : Q false s) :
    wpAny (model P w) A (searchCouldBeSeen (.ref b) ys) Q E s := by
  unfold searchCouldBeSeen
  refine wpAny_bind (loop_out (fun r => r.1 = none) (fun _ => False) (fun r go => ?_) _ _ rfl fun v hv r go => ?_)
  · obtain ⟨r1, r2⟩ := r
    obtain rfl : r1 = none := go.resolve_right id
    exact wpAny_pure h
  · obtain ⟨k2, c, rfl, hc⟩ := hy v hv
    dsimp only
    by_cases carried : (b == c || (carriedByValue (.ref b) && carriedByValue (.ref c))) = true
    · exact wp_if_pos carried (wpAny_pure ⟨rfl, rfl⟩)
    refine wp_if_neg carried (wpAny_bind (wpAny_eqIsQuiet_tuple hk (wp_if_neg (by decide) ?_)))
    refine wpAny_bind (wpAny_eqIsQuiet_tuple hc (wp_if_neg (by decide) ?_))
    refine wpAny_bind (class_key hk (wp_if_neg (by decide) ?_))
    exact wpAny_bind (class_key hc (wp_if_neg (by decide) (wpAny_pure ⟨rfl, rfl⟩)))

/-! ### a set of unlike keys -/
def rowsK (P : Program) (w : World) (L : List (Addr × Ky)) : List (Int × Value) := L.map fun p => (khash P w p.2, Value.ref p.1)
structure SetW (P : Program) (w : World) (h : Heap) (a : Addr) (L : List (Addr × Ky)) (es : Array (Int × Value)) (ep : Nat) (t : SetTable) : Prop where
  ob : ∃ o, h.get? a = some o ∧ o.ExactSet ∧ o.data = .set es ep t
  rows : es.toList = rowsK P w L
  ris : L2.Ris t.place.toList
  sz : t.place.size = L.length
  dm : t.dummies = #[]
  mok : Msk t.mask
  nd : (L.map (·.2)).Nodup
  tup : ∀ p ∈ L, IsK P w h p.2 p.1
  led : w.params.followText "set-order" = true ∨ t.led = true
  le : L.length ≤ t.mask
variable {a : Addr} {L : List (Addr × Ky)} {es : Array (Int × Value)} {ep : Nat} {t : SetTable}
theorem rows_size {L : List (Addr × Ky)} {es : Array (Int × Value)} (h : es.toList = rowsK P w L) : es.size = L.length := by
  have q := congrArg List.length h
  unfold rowsK at q
  rw [Array.length_toList, List.length_map] at q
  exact q
theorem rows_at {L : List (Addr × Ky)} {es : Array (Int × Value)} (h : es.toList = rowsK P w L) {i : Nat} {p : Addr × Ky} (hp : L[i]? = some p) : es[i]? = some (khash P w p.2, Value.ref p.1) := by
  rw [← Array.getElem?_toList, h]
  unfold rowsK
  rw [List.getElem?_map, hp] <;> rfl
theorem SetW.size (R : SetW P w s.heap a L es ep t) : es.size = L.length := rows_size R.rows
theorem SetW.fits (R : SetW P w s.heap a L es ep t) : t.fits es.size = true := by
  have h1 := R.sz
  have h2 := R.size
  have h3 := R.le
  unfold SetTable.fits SetTable.fill
  rw [R.dm, Bool.and_eq_true, beq_iff_eq, decide_eq_true_eq]
  show t.place.size = es.size ∧ t.place.size + 0 ≤ t.mask
  omega
theorem SetW.stays (R : SetW P w s.heap a L es ep t) : ¬ t.gaveWay = true := by
  unfold SetTable.gaveWay
  rw [R.mok.odd]
  decide

theorem no_dummy (m : Nat) : ∀ (n : Nat) (p : SetTable.Probe), p.dummy = none → (nth m p n).dummy = none
  | 0, _, e => e
  | n + 1, p, e => no_dummy m n (adv m p) (by unfold adv; split <;> exact e)
/-- where a hash's way begins -/
abbrev first (m : Nat) (h : Int) : SetTable.Probe := runAt m (SetTable.bits h % (m + 1)) (SetTable.bits h)
/-- k lies on its way from step c on, ahead of the free slot K, if it lies anywhere -/
def Ahead (L : List (Addr × Ky)) (t : SetTable) (h : Int) (k : Ky) (c K : Nat) : Prop := ∀ (i : Nat) p, L[i]? = some p → p.2 = k → ∃ d, c ≤ d ∧ d < K ∧ t.place.toList[i]? = some (way t.mask h d)
/-- what the table tells from step c on: the next row with the same hash, all ahead of it another key's; or the free slot, and the key is not there -/
theorem tells (R : SetW P w s.heap a L es ep t) {k : Ky} {c K : Nat} (inside : c ≤ K) (short : K < 10 * SetTable.turns t.mask) (free : way t.mask (khash P w k) K ∉ t.place.toList) (full : ∀ d, d < K → way t.mask (khash P w k) d ∈ t.place.toList) (ahead : Ahead L t (khash P w k) k c K) :
    (∃ q i p, c ≤ q ∧ q < K ∧ L[i]? = some p ∧ t.slot (way t.mask (khash P w k) q) = .live i ∧ (p.2 ≠ k → Ahead L t (khash P w k) k (q + 1) K) ∧
      t.probe (fun i => (es[i]?.map (·.1)).getD 0) (khash P w k) (nth t.mask (first t.mask (khash P w k)) c) = some (.candidate (way t.mask (khash P w k) q) i (nth t.mask (first t.mask (khash P w k)) (q + 1)))) ∨
    (k ∉ L.map (·.2) ∧ t.probe (fun i => (es[i]?.map (·.1)).getD 0) (khash P w k) (nth t.mask (first t.mask (khash P w k)) c) = some (.empty (way t.mask (khash P w k) K) none)) := by
  have on (q : Nat) : nth t.mask (nth t.mask (first t.mask (khash P w k)) c) q = nth t.mask (first t.mask (khash P w k)) (c + q) := (nth_add t.mask c _ q).symm
  have slot (q : Nat) : (nth t.mask (nth t.mask (first t.mask (khash P w k)) c) q).j = way t.mask (khash P w k) (c + q) := congrArg SetTable.Probe.j (on q)
  have hash {i : Nat} {p : Addr × Ky} (hp : L[i]? = some p) (e : p.2 = k) : (es[i]?.map (·.1)).getD 0 = khash P w k := by
    rw [rows_at R.rows hp, ← e]
    rfl
  rcases go_spec t R.ris R.dm (fun i => (es[i]?.map (·.1)).getD 0) (khash P w k) (10 * SetTable.turns t.mask) (K - c) _ (no_dummy _ c _ rfl) (by omega)
      (fun q hq => by rw [slot]; exact full (c + q) (by omega)) (by rw [slot, Nat.add_sub_cancel' inside]; exact free) with ⟨q, i, less, at_i, _, others, probe⟩ | ⟨others, probe⟩
  · rw [slot] at at_i
    rw [slot, on] at probe
    have here := slot_live R.ris at_i
    have low : i < L.length := by
      have := (List.getElem?_eq_some_iff.mp at_i).1
      rw [Array.length_toList, R.sz] at this
      exact this
    refine .inl ⟨c + q, i, L[i], Nat.le_add_right _ _, by omega, List.getElem?_eq_getElem low, here, fun other i2 p2 hp2 e2 => ?_, probe⟩
    obtain ⟨d, d1, d2, d3⟩ := ahead i2 p2 hp2 e2
    refine ⟨d, ?_, d2, d3⟩
    refine Classical.byContradiction fun z => ?_
    by_cases same : d = c + q
    · have there := slot_live R.ris (same ▸ d3)
      rw [here] at there
      cases there
      rw [List.getElem?_eq_getElem low] at hp2
      exact other ((congrArg Prod.snd (Option.some.inj hp2)).trans e2)
    · exact others (d - c) i2 (by omega) (by rw [slot, Nat.add_sub_cancel' d1]; exact d3) (hash hp2 e2)
  · rw [slot, Nat.add_sub_cancel' inside] at probe
    refine .inr ⟨fun m => ?_, probe⟩
    obtain ⟨p, hp, e⟩ := List.mem_map.mp m
    obtain ⟨i, hi⟩ := List.getElem?_of_mem hp
    obtain ⟨d, d1, d2, d3⟩ := ahead i p hi e
    exact others (d - c) i (by omega) (by rw [slot, Nat.add_sub_cancel' d1]; exact d3) (hash hi e)
/-- THE SEARCH, from the c-th step of its way on -/
theorem search_go (R : SetW P w s.heap a L es ep t) {x : Addr} {k : Ky} (hx : IsK P w s.heap k x) (hu : A.units < cLine) {K : Nat} (hKf : K < 10 * SetTable.turns t.mask)
    (hK : way t.mask (khash P w k) K ∉ t.place.toList) (hKb : ∀ c, c < K → way t.mask (khash P w k) c ∈ t.place.toList) {Q : SetFound → Shared → Prop}
    (there : k ∈ L.map (·.2) → Q (.there none) s) (away : k ∉ L.map (·.2) → Q (.free (way t.mask (khash P w k) K) false) s) :
    ∀ (f c : Nat) (stand : Option SetTable.Probe), stand.getD (t.probeStart (khash P w k)) = nth t.mask (first t.mask (khash P w k)) c → c ≤ K → K - c < f → Ahead L t (khash P w k) k c K →
      wpAny (model P w) A (setSearchFrom a (.ref x) (khash P w k) true f stand) Q E s
  | 0, _, _, _, _, over, _ => absurd over (Nat.not_lt_zero _)
  | f + 1, c, stand, here, inside, steps, ahead => by
    have ⟨oa, at_a, _, data⟩ := R.ob
    rw [setSearchFrom_succ]
    refine wpAny_bind (wpAny_setState_of at_a data R.fits (wp_if_neg R.stays ?_))
    try refine wpAny_bind (wpAny_pure ?_)
    rw [here]
    rcases tells R inside hKf hK hKb ahead with ⟨q, i, p, low, high, hp, live, next, probe⟩ | ⟨absent, probe⟩
    · rw [probe]
      dsimp only
      have mem := List.mem_of_getElem? hp
      have rest : wpAny (model P w) A (searchRest a (.ref x) (khash P w k) true f es t (way t.mask (khash P w k) q) i (nth t.mask (first t.mask (khash P w k)) (q + 1))) Q E s := by
        unfold searchRest
        rw [rows_at R.rows hp]
        refine wpAny_bind (wpAny_holding (wpAny_eqBool_tuple hu (R.tup p mem) hx (wpAny_bind (wpAny_setState_of at_a data R.fits ?_))))
        by_cases alike : p.2 = k
        · exact wp_if_pos (by simp [alike]) (wpAny_pure (there (List.mem_map.mpr ⟨p, mem, alike⟩)))
        refine wp_if_neg (by simp [alike]) ?_
        try refine wpAny_bind (wpAny_pure ?_)
        rw [sameMem]
        simp only [if_true, live, rows_at R.rows hp]
        refine wpAny_bind (wpAny_isSame_ref_self (wpAny_bind (wpAny_pure ?_)))
        simp only [if_true]
        exact wp_if_neg (by simp [alike]) (search_go R hx hu hKf hK hKb there away f (q + 1) _ rfl high (by omega) (next alike))
      by_cases led : t.led = true
      · refine wp_if_neg (by simp [led]) ?_
        try refine wpAny_bind (wpAny_pure ?_)
        exact rest
      refine wp_if_pos (by simp [led]) (wpAny_bind (seen_keys hx (fun y hy => ?_) (wp_if_neg (by decide) ?_)))
      · obtain ⟨e, he, rfl⟩ := List.mem_map.mp hy
        have row : e ∈ rowsK P w L := R.rows ▸ Array.mem_toList_iff.mpr (by simpa using (Array.mem_toList_iff.mp he : e ∈ es.filter _) |> fun z => (Array.mem_filter.mp z).1)
        obtain ⟨p2, hp2, rfl⟩ := List.mem_map.mp row
        exact ⟨p2.2, p2.1, rfl, R.tup p2 hp2⟩
      · try refine wpAny_bind (wpAny_pure ?_)
        exact rest
    · rw [probe]
      exact wpAny_pure (away absent)

/-! ### adding -/
theorem isK_same {h h' : Heap} {k : Ky} {a b : Addr} {o : Obj} {es : Array (Int × Value)} {ep : Nat} {t : SetTable} (hb : IsK P w h k b) (ho : h.get? a = some o) (hd : o.data = .set es ep t) (hs : Heap.SameBut a h h') : IsK P w h' k b := by
  obtain ⟨o', items, n, ho', hc, hd', hi⟩ := hb
  have hne : b ≠ a := by
    rintro rfl
    obtain rfl : o' = o := Option.some.inj (ho'.symm.trans ho)
    rw [hd] at hd'
    exact nomatch hd'
  exact ⟨o', items, n, (hs.2 b hne).trans ho', hc, hd', hi⟩
theorem isK_keep {h h' : Heap} {k : Ky} {b : Addr} (x : IsK P w h k b) (hk : ∀ c o, h.get? c = some o → h'.get? c = some o) : IsK P w h' k b := by
  obtain ⟨o, items, n, ho, r⟩ := x
  exact ⟨o, items, n, hk b o ho, r⟩
/-- what decides whether the table stays plain: either way the rest goes on -/
theorem by_value {β : Type} {pl : Bool} {x : Addr} {k : Ky} (hx : IsK P w s.heap k x) {rest : Bool → Sem β} {Q : β → Shared → Prop} (go : ∀ c, wpAny (model P w) A (rest c) Q E s) :
    wpAny (model P w) A (if pl = true then hashByValue 8 (.ref x) >>= rest else pure true >>= rest) Q E s := by
  cases pl with
  | true => exact wp_if_pos rfl (wpAny_bind (hash_key hx fun c => go c))
  | false => exact wp_if_neg Bool.false_ne_true (wpAny_bind (wpAny_pure (go true)))
/-- STORING a new key at its free slot: the rows are the old ones with the new one among them -/
theorem put_store (R : SetW P w s.heap a L es ep t) {x : Addr} {k : Ky} (hx : IsK P w s.heap k x) (hm : k ∉ L.map (·.2)) (hle : L.length + 1 ≤ t.mask) {j : Nat} (hK : j ∉ t.place.toList) {t1 : SetTable} (q1 : t1.place = (t.put j).1.place) (q2 : t1.dummies = (t.put j).1.dummies)
    (q3 : t1.mask = (t.put j).1.mask) (q4 : t1.led = (t.put j).1.led) {Q : Unit → Shared → Prop}
    (hQ : ∀ h1 L1 es1, Heap.SameBut a s.heap h1 → SetW P w h1 a L1 es1 (ep + 1) t1 → L1 = L.take (SetTable.below t.place j) ++ (x, k) :: L.drop (SetTable.below t.place j) → Q () { s with heap := h1 }) :
    wpAny (model P w) A (storeSet a (SetTable.insertAt es (t.put j).2 (khash P w k, .ref x)) t1) Q E s := by
  have ⟨oa, at_a, exact_a, data_a⟩ := R.ob
  have ⟨cut, _, _⟩ := below_cut R.ris j
  have other : t.place[SetTable.below t.place j]? ≠ some j := fun e => hK (List.mem_of_getElem? (by rw [Array.getElem?_toList]; exact e))
  have grown : (t.put j).1.place.size = L.length + 1 := by
    have := put_place t j
    rw [← Array.length_toList, this, len_ins _ (by rw [Array.length_toList]; exact cut), Array.length_toList, R.sz]
  generalize hM : L.take (SetTable.below t.place j) ++ (x, k) :: L.drop (SetTable.below t.place j) = M at hQ
  have rows : (SetTable.insertAt es (t.put j).2 (khash P w k, Value.ref x)).toList = rowsK P w M := by
    rw [← hM, SetTable.toList_insertAt, R.rows]
    show ((L.map _).take _ ++ _ :: (L.map _).drop _) = (List.map _ _)
    rw [List.map_append, List.map_cons, List.map_take, List.map_drop]
    rfl
  have perm : M.Perm ((x, k) :: L) := hM ▸ put_perm L (SetTable.below t.place j) (x, k)
  have len : M.length = L.length + 1 := perm.length_eq
  have unlike : (M.map (·.2)).Nodup := (perm.map (·.2)).nodup_iff.mpr (List.nodup_cons.mpr ⟨hm, R.nd⟩)
  have low := R.mok.le
  refine wpAny_storeSet_of at_a data_a ?_ (by rw [rows_size rows, len, sizeLine_eq]; omega)
  have but : Heap.SameBut a s.heap (s.heap.update a (Obj.putSet (SetTable.insertAt es (t.put j).2 (khash P w k, Value.ref x)) t1)) := Heap.SameBut.update ..
  refine hQ _ M _ but ⟨⟨_, store_at at_a data_a, ⟨exact_a.1, exact_a.2.1, exact_a.2.2⟩, rfl⟩, rows, by rw [q1]; exact ris_insert R.ris other, by rw [q1, grown, len], by rw [q2]; exact put_dm R.dm j, by rw [q3]; exact R.mok,
    unlike, fun p hp => ?_, by rw [q4]; exact R.led, by rw [len, q3]; exact hle⟩ rfl
  cases perm.mem_iff.mp hp with
  | head => exact isK_same hx at_a data_a but
  | tail _ old => exact isK_same (R.tup p old) at_a data_a but
/-- the table as it is stored, plain or not -/
theorem put_kind (u : SetTable) (c : Bool) : ∃ t1 : SetTable, (if c = true then u else { u with plain := false }) = t1 ∧ t1.place = u.place ∧ t1.dummies = u.dummies ∧ t1.mask = u.mask ∧ t1.led = u.led := by
  cases c <;> exact ⟨_, rfl, rfl, rfl, rfl, rfl⟩
end
end Ho
end

section
set_option Elab.async false
set_option linter.all false
set_option maxRecDepth 100000
set_option maxHeartbeats 4000000
/-! K3c: set(xs) of a list of such tuples, unlike ones below 63. -/
namespace Ho
open PySem PySem.Spec PyProof.Rows L2

theorem few_of {B : Type} [DecidableEq B] : ∀ (l D : List B), l.Nodup → (∀ x ∈ l, x ∈ D) → l.length ≤ D.length
  | l, [], _, among => by
    cases l with
    | nil => exact Nat.le_refl _
    | cons x l => exact nomatch among x List.mem_cons_self
  | l, d :: D, unlike, among => by
    have less := few_of (l.erase d) D (unlike.erase d) fun x hx => by
      have ⟨ne, mem⟩ := (List.Nodup.mem_erase_iff unlike).mp hx
      exact (List.mem_cons.mp (among x mem)).resolve_left ne
    rw [List.length_erase] at less
    rw [List.length_cons]
    split at less <;> omega

section
variable {P : Program} {w : World} {A : Around} {E : Value → Shared → Prop} {s : Shared}
theorem rows_all {L : List (Addr × Ky)} {es : Array (Int × Value)} (rows : es.toList = rowsK P w L) (i : Nat) : es[i]? = (L[i]?).map fun p => (khash P w p.2, Value.ref p.1) := by
  rw [← Array.getElem?_toList, rows]
  exact List.getElem?_map
theorem filterMap_same {B C : Type} {f g : B → Option C} : ∀ l : List B, (∀ i ∈ l, f i = g i) → l.filterMap f = l.filterMap g
  | [], _ => rfl
  | x :: l, h => by rw [List.filterMap_cons, List.filterMap_cons, h x List.mem_cons_self, filterMap_same l fun i hi => h i (List.mem_cons_of_mem _ hi)]
theorem picked_all {B : Type} (L : List B) : (List.range L.length).filterMap (fun i => L[i]?) = L := by
  have e : (List.range L.length).map (fun i => L[i]?) = L.map some := List.ext_getElem (by simp) fun i h1 h2 => by simp
  have z : (List.range L.length).filterMap (fun i => L[i]?) = ((List.range L.length).map fun i => L[i]?).filterMap id := by rw [List.filterMap_map] <;> rfl
  rw [z, e, List.filterMap_map]
  exact List.filterMap_some
/-- the rows in another order -/
theorem rows_order (L : List (Addr × Ky)) (es : Array (Int × Value)) (order : Array Nat) (rows : es.toList = rowsK P w L) (perm : order.toList.Perm (List.range L.length)) :
    ∃ L2, (order.filterMap (es[·]?)).toList = rowsK P w L2 ∧ L2.Perm L ∧ (L2.map fun p => khash P w p.2) = order.toList.map fun i => (es.map (·.1)).getD i 0 := by
  refine ⟨order.toList.filterMap fun i => L[i]?, ?_, ?_, ?_⟩
  · rw [Array.toList_filterMap]
    unfold rowsK
    rw [List.map_filterMap]
    exact congrArg (fun f => List.filterMap f order.toList) (funext fun i => rows_all rows i)
  · have moved := perm.filterMap fun i => L[i]?
    rw [picked_all] at moved
    exact moved
  · rw [List.map_filterMap, ← List.filterMap_eq_map]
    refine filterMap_same _ fun i hi => ?_
    have low : i < L.length := List.mem_range.mp (perm.mem_iff.mp hi)
    have at_i := rows_all rows i
    rw [List.getElem?_eq_getElem low] at at_i
    simp [Array.getD_eq_getD_getElem?, at_i, List.getElem?_eq_getElem low]

variable {a : Addr} {L : List (Addr × Ky)} {es : Array (Int × Value)} {ep : Nat} {t : SetTable}
/-- laid anew -/
theorem relay_to (R : SetW P w s.heap a L es ep t) {wanted : Nat} {t2 : SetTable} {order : Array Nat} (laid : t.relaid (es.map (·.1)) wanted = some (t2, order)) (perm : order.toList.Perm (List.range es.size)) (ris : L2.Ris t2.place.toList) (size : t2.place.size = es.size)
    (mask : Msk t2.mask) (led : t2.led = t.led) (plain : t2.dummies = #[]) (fits : SetTable.sizeAbove wanted ≤ 128) (room : L.length ≤ t2.mask) {Q : Unit → Shared → Prop}
    (go : ∀ h2 L2 es2, Heap.SameBut a s.heap h2 → SetW P w h2 a L2 es2 (ep + 1) t2 → L2.Perm L → (L2.map fun p => khash P w p.2) = (order.toList.map fun i => (es.map (·.1)).getD i 0) → Q () { s with heap := h2 }) :
    wpAny (model P w) A (setRelay a wanted) Q E s := by
  have ⟨oa, at_a, exact_a, data⟩ := R.ob
  have many := R.size
  rw [many] at perm size
  obtain ⟨M, rows, same, hashes⟩ := rows_order L es order R.rows perm
  have whole : (order.filterMap (es[·]?)).size = es.size := (rows_size rows).trans (same.length_eq.trans many.symm)
  have bound := mask.le
  rw [setRelay_eq]
  refine wpAny_bind (wpAny_setState_of at_a data R.fits (wp_if_neg (by rw [sizeLine_eq]; omega) ?_))
  try refine wpAny_bind (wpAny_pure ?_)
  rw [laid]
  dsimp only
  refine wpAny_bind ?_
  refine wp_if_neg (by rw [whole]; simp) ?_
  try refine wpAny_bind (wpAny_pure ?_)
  refine wpAny_pure (wpAny_storeSet_of at_a data ?_ (by rw [whole, many, sizeLine_eq]; omega))
  have but : Heap.SameBut a s.heap (s.heap.update a (Obj.putSet (order.filterMap (es[·]?)) t2)) := Heap.SameBut.update ..
  exact go _ M _ but ⟨⟨_, store_at at_a data, ⟨exact_a.1, exact_a.2.1, exact_a.2.2⟩, rfl⟩, rows, ris, size.trans same.length_eq.symm, plain, mask, (same.map (·.2)).nodup_iff.mpr R.nd,
    fun p hp => isK_same (R.tup p (same.mem_iff.mp hp)) at_a data but, led ▸ R.led, by rw [same.length_eq]; exact room⟩ same hashes

/-- a set whose keys all are found again -/
structure SetS (P : Program) (w : World) (h : Heap) (a : Addr) (L : List (Addr × Ky)) (es : Array (Int × Value)) (ep : Nat) (t : SetTable) : Prop where
  toW : SetW P w h a L es ep t
  tab : TabOk t (L.map fun p => khash P w p.2)
  room : 5 * L.length < 3 * t.mask
  few : L.length < 64
theorem tab_as {t t1 : SetTable} {hs : List Int} (T : TabOk t hs) (place : t1.place = t.place) (mask : t1.mask = t.mask) (plain : t1.dummies = #[]) : TabOk t1 hs :=
  ⟨place ▸ T.ris, plain, place ▸ T.sz, mask ▸ T.mok, fun x hx => by rw [place] at hx; rw [mask]; exact T.bd x hx, fun i h j e1 e2 => by rw [place] at e2 ⊢; rw [mask]; exact T.reach i h j e1 e2⟩
/-- a table that is too full is laid anew, a greater one -/
theorem relay_up {n : Nat} (R : SetW P w s.heap a L es ep t) (T : t.mask = 7 ∧ n = 5 ∨ t.mask = 31 ∧ n = 19) (len : L.length = n) {Q : Unit → Shared → Prop}
    (go : ∀ h2 L2 es2 t2, Heap.SameBut a s.heap h2 → SetS P w h2 a L2 es2 (ep + 1) t2 → L2.Perm L → Q () { s with heap := h2 }) : wpAny (model P w) A (setRelay a (SetTable.grown n)) Q E s := by
  have goes (M : Nat) (above : SetTable.sizeAbove (SetTable.grown n) - 1 = M) (ok : MaskOk M) (fits : SetTable.sizeAbove (SetTable.grown n) ≤ 128) (room : 5 * n < 3 * M) (small : n < 64) : wpAny (model P w) A (setRelay a (SetTable.grown n)) Q E s := by
    obtain ⟨t2, order, laid, perm, T2, mask, led, _, plain⟩ := relaid_ok t (hs := es.map (·.1)) above ok (by rw [Array.size_map, R.size, len]; omega)
    rw [Array.size_map] at perm
    have size := T2.sz
    rw [List.length_map, perm.length_eq, List.length_range] at size
    refine relay_to R laid perm T2.ris size (mask ▸ Msk.of ok) led plain fits (by rw [len, mask]; omega) fun h2 L2 es2 but R2 same hashes => go h2 L2 es2 t2 but ⟨R2, hashes ▸ T2, ?_, ?_⟩ same
    · rw [same.length_eq, len, mask]
      exact room
    · rw [same.length_eq, len]
      exact small
  rcases T with ⟨_, rfl⟩ | ⟨_, rfl⟩
  · exact goes 31 (by rw [size_20]) (.inr (.inl rfl)) (by rw [size_20]; decide) (by decide) (by decide)
  · exact goes 127 (by rw [size_76]) (.inr (.inr rfl)) (by rw [size_76]; decide) (by decide) (by decide)
theorem steps_few {m : Nat} (h : m ≤ 127) : 10 * SetTable.turns m ≤ 1420 := by
  unfold SetTable.turns
  omega
/-- ADDING -/
theorem add_set (R : SetS P w s.heap a L es ep t) {x : Addr} {k : Ky} (hx : IsK P w s.heap k x) (hu : A.units < cLine) (hfew : L.length + 1 < 64) {Q : Bool → Shared → Prop}
    (hQ : ∀ b h' L' es' ep' t', Heap.SameBut a s.heap h' → SetS P w h' a L' es' ep' t' → (k ∈ L.map (·.2) → L' = L) → (k ∉ L.map (·.2) → L'.Perm ((x, k) :: L)) → Q b { s with heap := h' }) :
    wpAny (model P w) A (setAddHashed a (.ref x) (khash P w k)) Q E s := by
  have ⟨oa, at_a, _, data⟩ := R.toW.ob
  have room := R.room
  have le := R.toW.le
  obtain ⟨K, short, free, full⟩ := R.toW.mok.full.free t.place.toList (by rw [Array.length_toList, R.toW.sz]; exact le) (khash P w k)
  have far := steps_few R.toW.mok.le
  unfold setAddHashed
  refine wpAny_holding ?_
  rw [show 100000 = 99999 + 1 from rfl, setAddHashedIn_succ]
  refine wpAny_bind (wpAny_setState_of at_a data R.toW.fits (wp_if_neg (by simp [byScan, Value.scannable]) ?_))
  try refine wpAny_bind (wpAny_pure ?_)
  by_cases old : k ∈ L.map (·.2)
  · refine wpAny_bind (search_go R.toW hx hu short free full (fun _ => wpAny_pure ?_) (fun new => absurd old new) 100000 0 none rfl (Nat.zero_le _) (by omega) fun i p hp e => ?_)
    · exact hQ false _ L es ep t (.refl a s.heap) R (fun _ => rfl) fun new => absurd old new
    · have low : i < t.place.toList.length := by
        rw [Array.length_toList, R.toW.sz]
        exact (List.getElem?_eq_some_iff.mp hp).1
      obtain ⟨c, less, on_way⟩ := R.tab.before (i := i) free (by rw [List.getElem?_map, hp, ← e] <;> rfl) (List.getElem?_eq_getElem low)
      exact ⟨c, Nat.zero_le _, less, by rw [List.getElem?_eq_getElem low, on_way]⟩
  refine wpAny_bind (search_go R.toW hx hu short free full (fun z => absurd z old) (fun _ => ?_) 100000 0 none rfl (Nat.zero_le _) (by omega) fun i p hp e => absurd (List.mem_map.mpr ⟨p, List.mem_of_getElem? hp, e⟩) old)
  dsimp only
  refine wpAny_bind (wpAny_setState_of at_a data R.toW.fits ?_)
  dsimp only
  refine by_value hx fun c => ?_
  obtain ⟨t1, kind, place, dummies, mask, led⟩ := put_kind (t.put (way t.mask (khash P w k) K)).1 c
  have mask : t1.mask = t.mask := mask
  rw [kind]
  refine wpAny_bind (put_store R.toW hx old (by omega) free place dummies mask led fun h1 L1 es1 but R1 ins => ?_)
  have ⟨_, _, T, _⟩ := R.tab.put free full
  have perm : L1.Perm ((x, k) :: L) := ins ▸ put_perm L _ (x, k)
  have len : L1.length = L.length + 1 := perm.length_eq
  have T1 : TabOk t1 (L1.map fun p => khash P w p.2) := tab_as (by rw [ins, List.map_append, List.map_cons, List.map_take, List.map_drop]; exact T) place mask R1.dm
  have fill : t1.tooFull = decide (5 * (L.length + 1) ≥ 3 * t.mask) := by
    have e : t1.fill = L.length + 1 := by
      show t1.place.size + t1.dummies.size = _
      rw [R1.sz, R1.dm, len]
      rfl
    unfold SetTable.tooFull
    rw [e, mask]
    exact decide_eq_decide.mpr (by omega)
  rw [R.toW.size]
  by_cases over : 5 * (L.length + 1) ≥ 3 * t.mask
  · have yes : t1.tooFull = true := by rw [fill]; exact decide_eq_true over
    have which : t1.mask = 7 ∧ L.length + 1 = 5 ∨ t1.mask = 31 ∧ L.length + 1 = 19 := by
      rw [mask]
      rcases R.tab.mok with e | e | e <;> rw [e] at over room ⊢ <;> omega
    have up := relay_up (s := { s with heap := h1 }) (A := A) (E := E) R1 which len (Q := fun _ s2 => wpAny (model P w) A (pure true) Q E s2) fun h2 L2 es2 t2 but2 R2 same => wpAny_pure (hQ true h2 L2 es2 _ t2 (but.trans but2) R2 (fun z => absurd z old) fun _ => same.trans perm)
    first
      | exact wp_if_pos (by simp [yes]) (wpAny_bind up)
      | exact wpAny_bind (wp_if_pos (by simp [yes]) up)
  · have no : ¬ t1.tooFull = true := by rw [fill]; exact fun z => over (of_decide_eq_true z)
    have end_ := hQ true h1 L1 es1 _ t1 but ⟨R1, T1, by rw [len, mask]; omega, by rw [len]; exact hfew⟩ (fun z => absurd z old) fun _ => perm
    first
      | exact wp_if_neg (by simp [no]) (wpAny_pure end_)
      | exact wpAny_bind (wp_if_neg (by simp [no]) (wpAny_pure (wpAny_pure end_)))

/-! ### filling -/
/-- L holds items of the first i alone, and each one's key -/
structure Come (ks : List (Addr × Ky)) (i : Nat) (L : List (Addr × Ky)) : Prop where
  sub : ∀ p ∈ L, p ∈ ks.take i
  all : ∀ p ∈ ks.take i, p.2 ∈ L.map (·.2)
theorem Come.zero (ks : List (Addr × Ky)) : Come ks 0 [] := ⟨(fun _ z => nomatch z), fun p z => by rw [List.take_zero] at z; cases z⟩
/-- the next item: its key was there, or it is put in -/
theorem Come.next {ks L M : List (Addr × Ky)} {i : Nat} {x : Addr × Ky} (g : Come ks i L) (at_i : ks[i]? = some x) (old : ∀ p ∈ M, p = x ∨ p ∈ L) (kept : ∀ k ∈ L.map (·.2), k ∈ M.map (·.2)) (new : x.2 ∈ M.map (·.2)) : Come ks (i + 1) M := by
  have row (p : Addr × Ky) : p ∈ ks.take (i + 1) ↔ p ∈ ks.take i ∨ p = x := by rw [take_next at_i, List.mem_append, List.mem_singleton]
  refine ⟨fun p hp => (row p).mpr ?_, fun p hp => ?_⟩
  · exact (old p hp).elim .inr fun z => .inl (g.sub p z)
  · rcases (row p).mp hp with z | rfl
    · exact kept _ (g.all p z)
    · exact new
theorem Come.same {ks L : List (Addr × Ky)} {i : Nat} {x : Addr × Ky} (g : Come ks i L) (at_i : ks[i]? = some x) (there : x.2 ∈ L.map (·.2)) : Come ks (i + 1) L := g.next at_i (fun _ z => .inr z) (fun _ z => z) there
theorem Come.more {ks L M : List (Addr × Ky)} {i : Nat} {x : Addr × Ky} (g : Come ks i L) (at_i : ks[i]? = some x) (perm : M.Perm (x :: L)) : Come ks (i + 1) M := by
  have keys := perm.map (·.2)
  exact g.next at_i (fun p hp => List.mem_cons.mp (perm.mem_iff.mp hp)) (fun k hk => keys.mem_iff.mpr (List.mem_cons_of_mem _ hk)) (keys.mem_iff.mpr List.mem_cons_self)
theorem SetS.keep {h h2 : Heap} (R : SetS P w h a L es ep t) (same : ∀ o, h.get? a = some o → h2.get? a = some o) (keys : ∀ p ∈ L, IsK P w h2 p.2 p.1) : SetS P w h2 a L es ep t := by
  have W := R.toW
  have ⟨o, at_a, shape⟩ := W.ob
  exact ⟨⟨⟨o, same o at_a, shape⟩, W.rows, W.ris, W.sz, W.dm, W.mok, W.nd, keys, W.led, W.le⟩, R.tab, R.room, R.few⟩
abbrev noSet (w : World) : Obj := { cls := .type "set", dict := none, data := .set #[] 0 (.fresh 0 0 (!w.params.followText "set-order")) }
theorem set_new {h : Heap} (at_a : h.get? a = some (noSet w)) : SetS P w h a [] #[] 0 (.fresh 0 0 (!w.params.followText "set-order")) := by
  have led : w.params.followText "set-order" = true ∨ (!w.params.followText "set-order") = true := by cases w.params.followText "set-order" <;> simp
  exact ⟨⟨⟨_, at_a, ⟨rfl, rfl, rfl⟩, rfl⟩, rfl, .nil, rfl, rfl, .inl rfl, .nil, (fun _ z => nomatch z), led, Nat.zero_le _⟩, ⟨.nil, rfl, rfl, .inl rfl, (fun _ z => nomatch z), fun _ _ _ z => by simp at z⟩, (by show 5 * 0 < 3 * 7; decide), (by show 0 < 64; decide)⟩

/-- what has come when i items are in: the set at S, and all that stood in h0 -/
structure Filled (P : Program) (w : World) (h0 : Heap) (S : Addr) (ks : List (Addr × Ky)) (i : Nat) (h : Heap) : Prop where
  old : ∀ b o, h0.get? b = some o → h.get? b = some o
  set : ∃ L es ep t, SetS P w h S L es ep t ∧ Come ks i L
/-- the loop that puts a walk's items into the set; only the heap and the count of tokens move -/
theorem fills {I S : Addr} {fp wr : List Addr} {n : Nat} {Pv : Nat → Value → Prop} {St : Nat → Heap → Prop} {R : Result → Shared → Prop} (W : Walks P w A.in1 I fp wr n Pv St) (apart : S ∉ fp) {ks : List (Addr × Ky)} (len : n = ks.length) {D : List Ky} (few : D.length < 63) (kinds : ∀ p ∈ ks, p.2 ∈ D)
    (is : ∀ i v, Pv i v → ∃ p, ks[i]? = some p ∧ v = .ref p.1) {h0 : Heap} (keys : ∀ p ∈ ks, IsK P w h0 p.2 p.1) (newS : h0.get? S = none) (newW : ∀ b ∈ wr, h0.get? b = none) (units : A.in1.units < cLine) :
    ∀ (k i : Nat) (h : Heap) (tk : Nat), i + k = n → St i h → Filled P w h0 S ks i h → (∀ h2 tk2, Filled P w h0 S ks n h2 → R (.ok (.ret .none)) { s with heap := h2, toks := tk2 }) →
      codeAny (model P w) A (.builtin "set.update.loop" ⟨[.ref S, .ref I], []⟩) R { s with heap := h, toks := tk } := by
  have turned {i : Nat} {h h2 : Heap} (F : Filled P w h0 S ks i h) (kp : ∀ b o, b ∉ wr → h.get? b = some o → h2.get? b = some o) : Filled P w h0 S ks i h2 := by
    have old : ∀ b o, h0.get? b = some o → h2.get? b = some o := fun b o e => kp b o (fun z => by rw [newW b z] at e; cases e) (F.old b o e)
    have ⟨L, es, ep, t, hS, come⟩ := F.set
    exact ⟨old, L, es, ep, t, hS.keep (fun o e => kp S o (fun z => apart (W.sub S z)) e) (fun p hp => isK_keep (keys p (List.mem_of_mem_take (come.sub p hp))) old), come⟩
  intro k
  induction k with
  | zero =>
    intro i h tk sum st fl leave
    obtain rfl : i = n := sum
    refine codeAny_builtin F.entry_set_update_loop ?_
    rw [Around.under_plainId F.plain_set_update_loop _]
    exact wpAny_bind (W.done { s with heap := h, toks := tk } _ _ st fun h2 tk2 kp => wpAny_pure (leave h2 tk2 (turned fl kp)))
  | succ k ih =>
    intro i h tk sum st fl leave
    have less : i < n := by omega
    refine codeAny_builtin F.entry_set_update_loop ?_
    rw [Around.under_plainId F.plain_set_update_loop _]
    refine wpAny_bind (W.item i { s with heap := h, toks := tk } _ _ less st fun v h2 tk2 hv st2 kp => ?_)
    obtain ⟨p, hp, rfl⟩ := is i v hv
    have ⟨old2, L, es, ep, t, hS, come⟩ := turned fl kp
    have isk : IsK P w h2 p.2 p.1 := isK_keep (keys p (List.mem_of_getElem? hp)) old2
    have room : L.length + 1 < 64 := by
      have := few_of (L.map (·.2)) D hS.toW.nd fun x hx => have ⟨y, hy, e⟩ := List.mem_map.mp hx; e ▸ kinds y (List.mem_of_mem_take (come.sub y hy))
      rw [List.length_map] at this
      omega
    refine wpAny_bind (m := holding [Value.ref p.1] (setAdd S (.ref p.1))) (wpAny_holding ?_)
    unfold setAdd
    refine wpAny_holding (wpAny_bind (wpAny_pyHash_tuple (s := { s with heap := h2, toks := tk2 }) units isk ?_))
    refine add_set (s := { s with heap := h2, toks := tk2 + (p.2.length + 1) }) hS isk units room fun b h3 L3 es3 ep3 t3 but hS3 there new => ?_
    have old3 : ∀ b o, h0.get? b = some o → h3.get? b = some o := fun b o e => (but.2 b (fun z => by rw [z, newS] at e; cases e)).trans (old2 b o e)
    have come3 : Come ks (i + 1) L3 := by
      by_cases c : p.2 ∈ L.map (·.2)
      · exact there c ▸ come.same hp c
      · exact come.more hp (new c)
    exact wpAny_pure ⟨plainId_quiet F.plain_set_update_loop _, ih (i + 1) h3 _ (by omega) (W.frame _ _ _ st2 fun c hc o e => (but.2 c fun z => apart (z ▸ hc)).trans e) ⟨old3, L3, es3, ep3, t3, hS3, come3⟩ leave⟩

set_option maxHeartbeats 6400000 in
/-- set(xs) -/
theorem call_set {l : Addr} {items : Array Value} (ks : List (Addr × Ky)) (D : List Ky) (hD : D.length < 63) (hin : ∀ p ∈ ks, p.2 ∈ D) {Q : Value → Shared → Prop} (hh : A.handled = none) (hl : s.heap.IsList l items) (hit : items.toList = ks.map fun p => Value.ref p.1)
    (hk : ∀ p ∈ ks, IsK P w s.heap p.2 p.1) (hu : A.units + 3 < cLine)
    (h : ∀ (h' : Heap) (tk : Nat) L es ep t, SetS P w h' s.heap.objs.size L es ep t → Come ks ks.length L → (∀ b o, s.heap.get? b = some o → h'.get? b = some o) → Q (.ref s.heap.objs.size) { s with heap := h', toks := tk }) :
    wpAny (model P w) A (call (.type "set") [.ref l]) Q E s := by
  have wanted : ∀ h2 tk2, Filled P w s.heap s.heap.objs.size ks ks.length h2 → Q (.ref s.heap.objs.size) { s with heap := h2, toks := tk2 } := fun h2 tk2 fl => have ⟨L, es, ep, t, hS, come⟩ := fl.set; h h2 tk2 L es ep t hS come fl.old
  clear h
  obtain ⟨c, tl, line⟩ := F.called_set.mro
  have made := F.called_set.made
  have under := F.called_set.sub
  have noType := F.called_set.notType
  have creates := F.called_set.canCreate
  have typed := F.typeCall_set_1 (.ref l)
  refine wpAny_call (codeAny_of_tree (wpAny_pure ⟨Code.quiet_builtin _ (by decide +kernel), codeAny_builtin F.entry_type_call ?_⟩))
  rw [Around.under_plain (weight_type_call_type "set" [.ref l] []) rfl]
  repeat (any_goals (first | assumption | wp_step))
  refine codeAny_mono (code_set_led1 (.ref l) (E := E) (Q₁ := fun v s1 => v = .ref s.heap.objs.size ∧ s1 = { s with heap := s.heap.push (noSet w) }) ⟨rfl, rfl⟩) fun r s1 laid => ?_
  cases r with
  | error e => exact laid
  | ok flow =>
  cases flow with
  | next => exact laid.elim
  | brk => exact laid.elim
  | cont => exact laid.elim
  | ret v =>
  obtain ⟨rfl, rfl⟩ := laid
  have at_S : (s.heap.push (noSet w)).get? s.heap.objs.size = some (noSet w) := Heap.get?_push_size _ rfl
  have isSet : Shared.TypeIs { s with heap := s.heap.push (noSet w) } (.ref s.heap.objs.size) "set" := ⟨_, at_S, rfl⟩
  have inits := F.called_set.init.lookup
  have bound := F.called_set.init.bind (.ref s.heap.objs.size)
  repeat (any_goals (first | assumption | wp_step))
  refine codeAny_mono (codeAny_call_builtin (R := wants (fun v s2 => v = .none ∧ ∃ h2 tk2, s2 = { s with heap := h2, toks := tk2 } ∧ Filled P w s.heap s.heap.objs.size ks ks.length h2) E) F.called_set.init.plain F.entry_set_init (check_set_init_1 isSet ?_)) fun r s2 inited => ?_
  · have inside : l < s.heap.objs.size := have ⟨_, e, _⟩ := hl; Heap.lt_size e
    have listed : (s.heap.push (noSet w)).IsList l items := hl.push _
    obtain ⟨⟨kind, attrs, data, cells⟩, stands, isList, eps, isSeq⟩ := hl
    simp only at isList isSeq
    subst isList isSeq
    have stands2 := Heap.get?_push_of_some (noSet w) stands
    have notSet := F.sub_list_set
    have notFrozen := F.sub_list_frozenset
    have notDict : (Value.type "list" == Value.type "dict") = false := by decide
    unfold Builtin.«set.__init__» noKeywords Builtin.Frozenset.updateFrom
    generalize walks : pyIter = W
    wp_walk
    subst walks
    refine wpAny_pyIter_list listed (wpAny_bind (wpAny_runValue ?_))
    have size : (s.heap.push (noSet w)).objs.size = s.heap.objs.size + 1 := Heap.size_push ..
    have unborn {b : Addr} (hb : s.heap.objs.size ≤ b) : s.heap.get? b = none := by
      cases q : s.heap.get? b with
      | none => rfl
      | some o => exact absurd (Heap.lt_size q) (Nat.not_lt.mpr hb)
    have many : items.size = ks.length := by rw [← Array.length_toList, hit, List.length_map]
    have calm : A.in1.in1.in1.handled = none := hh
    refine fills (s := s) (tk := s.toks) (Walks.list calm (s.heap.push (noSet w)).objs.size l (by rw [size]; exact Nat.ne_of_lt (Nat.lt_succ_of_lt inside)) items) (S := s.heap.objs.size) (by rw [size]; simpa using fun z : s.heap.objs.size = l => Nat.ne_of_gt inside z) many hD hin (fun i v hv => ?_) hk (unborn (Nat.le_refl _)) (fun b hb => unborn (by rw [List.mem_singleton.mp hb, size]; exact Nat.le_succ _)) hu items.size 0 _ (Nat.zero_add _)
      ⟨⟨_, Heap.get?_push_size _ rfl, rfl, rfl⟩, listed.push _⟩ ⟨fun b o e => Heap.get?_push_of_some _ (Heap.get?_push_of_some _ e), [], #[], 0, _, set_new (Heap.get?_push_of_some _ at_S), Come.zero ks⟩ fun h2 tk2 fl => ?_
    · have q : items.toList[i]? = some v := by rw [Array.getElem?_toList]; exact hv
      rw [hit, List.getElem?_map, Option.map_eq_some_iff] at q
      obtain ⟨p, hp, e⟩ := q
      exact ⟨p, hp, e.symm⟩
    · refine wpAny_pure ?_
      exact wpAny_pure ⟨rfl, h2, tk2, rfl, many ▸ fl⟩
  cases r with
  | error e => exact inited
  | ok flow =>
  cases flow with
  | next => exact inited.elim
  | brk => exact inited.elim
  | cont => exact inited.elim
  | ret v =>
  obtain ⟨rfl, h2, tk2, rfl, fl⟩ := inited
  repeat (any_goals (first | assumption | wp_step))
  exact wanted h2 _ fl
end
end Ho
end

section
set_option Elab.async false
set_option linter.all false
set_option maxRecDepth 100000
set_option maxHeartbeats 4000000
/-! K3d: the union of such a set and of a set of one. -/
namespace Ho
open PySem PySem.Spec PyProof.Rows L2
section
variable {P : Program} {w : World} {A : Around} {E : Value → Shared → Prop} {s : Shared}
variable {a r o : Addr} {L : List (Addr × Ky)} {es er : Array (Int × Value)} {ep epr : Nat} {t tr : SetTable}

theorem rows_nil {es : Array (Int × Value)} (h : es.toList = rowsK P w []) : es = #[] := by
  have q : es.toList = [] := h
  exact Array.toList_eq_nil_iff.mp q
theorem SetW.other {h h' : Heap} (R : SetW P w h o L es ep t) {x : Addr} {ob : Obj} {e2 : Array (Int × Value)} {ep2 : Nat} {t2 : SetTable} (ho : h.get? x = some ob) (hd : ob.data = .set e2 ep2 t2) (hne : o ≠ x) (sb : Heap.SameBut x h h') : SetW P w h' o L es ep t := by
  obtain ⟨b, hb, q⟩ := R.ob
  exact ⟨⟨b, (sb.2 o hne).trans hb, q⟩, R.rows, R.ris, R.sz, R.dm, R.mok, R.nd, fun p hp => isK_same (R.tup p hp) ho hd sb, R.led, R.le⟩

/-- room is made -/
theorem room_for (R : SetW P w s.heap r L es ep t) {more : Nat} (hk : L.length + more ≤ 63) {Q : Unit → Shared → Prop}
    (hQ : ∀ h' L' es' ep' t', Heap.SameBut r s.heap h' → SetW P w h' r L' es' ep' t' → L'.Perm L → (L.length + more) * 5 < t'.mask * 3 → Q () { s with heap := h' }) :
    wpAny (model P w) A (setRoomFor r more) Q E s := by
  obtain ⟨ob, ho, hex, hd⟩ := R.ob
  unfold setRoomFor
  refine wpAny_bind (wpAny_setState_of ho hd R.fits ?_)
  dsimp only
  have hfill : t.fill = L.length := by
    show t.place.size + t.dummies.size = _
    rw [R.sz, R.dm] <;> rfl
  unfold SetTable.roomFor
  rw [hfill, R.sz]
  by_cases c : (L.length + more) * 5 ≥ t.mask * 3
  · rw [if_pos c]
    dsimp only
    have q := size_above (k := (L.length + more) * 2) (by omega)
    obtain ⟨t', order, e, hp, hr, hs, hm, hl, hdm⟩ := laid_ok (Msk.full q.1) (hs := es.map (·.1)) (by rw [Array.size_map, R.size]; omega) t.finger (t.movedTo (SetTable.sizeAbove ((L.length + more) * 2) - 1)) t.led t.plain
    rw [Array.size_map] at hp hs
    refine relay_to R (by rw [relaid_as]; exact e) hp hr hs (by rw [hm]; exact q.1) hl hdm q.2.1 (by rw [hm]; omega) fun h' L' es' sb R' pm _ => ?_
    have h7 : 7 ≤ t.mask := by rcases R.mok with e | e | e | e | e <;> omega
    exact hQ h' L' es' _ t' sb R' pm (by rw [hm]; omega)
  · rw [if_neg c]
    dsimp only
    exact wpAny_pure (hQ s.heap L es ep t (Heap.SameBut.refl r s.heap) R (List.Perm.refl _) (by omega))

/-- an empty set takes another one's elements -/
theorem merge_new (Rr : SetW P w s.heap r [] er epr tr) (Ro : SetW P w s.heap o L es ep t) (hne : r ≠ o) (hfew : L.length ≤ 62) {each : Sem Unit} {Q : Unit → Shared → Prop}
    (hQ : ∀ h' L' es' ep' t', Heap.SameBut r s.heap h' → SetW P w h' r L' es' ep' t' → L'.Perm L → Q () { s with heap := h' }) :
    wpAny (model P w) A (setMerge r o each) Q E s := by
  obtain ⟨ob, ho, hex, hd⟩ := Ro.ob
  obtain ⟨obr, hor, hexr, hdr⟩ := Rr.ob
  unfold setMerge
  refine wp_if_neg (by simp [hne]) ?_
  try refine wpAny_bind (wpAny_pure ?_)
  refine wpAny_bind (wpAny_setState_of ho hd Ro.fits ?_)
  dsimp only
  by_cases he : es.isEmpty = true
  · refine wp_if_pos he ?_
    have hL : L = [] := by
      have q := Ro.size
      have z : es.size = 0 := by simpa [Array.isEmpty] using he
      exact List.eq_nil_of_length_eq_zero (by omega)
    subst hL
    exact wpAny_pure (hQ s.heap [] er epr tr (Heap.SameBut.refl r s.heap) Rr (List.Perm.refl _))
  · refine wp_if_neg he ?_
    try refine wpAny_bind (wpAny_pure ?_)
    rw [Ro.size]
    refine wpAny_bind (room_for Rr (by simpa using (show L.length ≤ 63 by omega)) fun h1 L1 er1 ep1 tr1 sb1 R1 pm1 hroom => ?_)
    have hL1 : L1 = [] := List.Perm.eq_nil pm1
    subst hL1
    simp only [List.length_nil, Nat.zero_add] at hroom
    have Ro1 : SetW P w h1 o L es ep t := Ro.other hor hdr (Ne.symm hne) sb1
    obtain ⟨obr1, hor1, hexr1, hdr1⟩ := R1.ob
    refine wpAny_bind (wpAny_setState_of (s := { s with heap := h1 }) hor1 hdr1 (SetW.fits (s := { s with heap := h1 }) R1) ?_)
    dsimp only
    have hfill : (tr1.fill != 0) = false := by
      have z : tr1.fill = 0 := by
        show tr1.place.size + tr1.dummies.size = 0
        rw [R1.sz, R1.dm] <;> rfl
      rw [z] <;> rfl
    have led2 : w.params.followText "set-order" = true ∨ (tr1.led && t.led) = true := by
      rcases R1.led with z | z
      · exact .inl z
      · rcases Ro.led with y | y
        · exact .inl y
        · exact .inr (by rw [z, y] <;> rfl)
    have sbp : ∀ es' t', Heap.SameBut r h1 (h1.update r (Obj.putSet es' t')) := fun es' t' => Heap.SameBut.update ..
    unfold SetTable.road
    rw [hfill]
    simp only [Bool.false_eq_true, if_false]
    by_cases hm : (tr1.mask == t.mask && t.dummies.isEmpty) = true
    · rw [if_pos hm]
      dsimp only
      refine wpAny_storeSet_of (s := { s with heap := h1 }) hor1 hdr1 ?_ (by rw [Ro.size, sizeLine_eq]; omega)
      refine hQ _ L es _ _ (sb1.trans (sbp _ _)) ⟨⟨_, store_at hor1 hdr1, ⟨hexr1.1, hexr1.2.1, hexr1.2.2⟩, rfl⟩, Ro.rows, Ro.ris, Ro.sz, Ro.dm, Ro.mok, Ro.nd, fun p hp => isK_same (Ro1.tup p hp) hor1 hdr1 (sbp _ _), led2, Ro.le⟩ (List.Perm.refl _)
    · rw [if_neg hm]
      dsimp only
      obtain ⟨t', order, e, hp, hr, hs, hm', hl, hdm⟩ := laid_ok R1.mok.full (hs := es.map (·.1)) (by rw [Array.size_map, Ro.size]; omega) tr1.finger tr1.moves (tr1.led && t.led) (tr1.plain && t.plain)
      rw [Array.size_map, Ro.size] at hp hs
      obtain ⟨L2, r1, r2, r3⟩ := rows_order L es order Ro.rows hp
      have hs2 : (order.filterMap (es[·]?)).size = es.size := by rw [rows_size r1, r2.length_eq, Ro.size]
      refine wpAny_bind ?_
      rw [e]
      show wpAny _ _ (do
        if (order.filterMap (es[·]?)).size != es.size then unsupported "internal:set-table-lost-an-element"
        pure (order.filterMap (es[·]?), t') : Sem (Array (Int × Value) × SetTable)) _ _ _
      refine wp_if_neg (by rw [hs2]; simp) ?_
      try refine wpAny_bind (wpAny_pure ?_)
      refine wpAny_pure ?_
      dsimp only
      refine wpAny_storeSet_of (s := { s with heap := h1 }) hor1 hdr1 ?_ (by rw [hs2, Ro.size, sizeLine_eq]; omega)
      refine hQ _ L2 _ _ _ (sb1.trans (sbp _ _)) ⟨⟨_, store_at hor1 hdr1, ⟨hexr1.1, hexr1.2.1, hexr1.2.2⟩, rfl⟩, r1, hr, by rw [hs, r2.length_eq], hdm, by rw [hm']; exact R1.mok, (r2.map (·.2)).nodup_iff.mpr Ro.nd,
        fun p hp => isK_same (Ro1.tup p (r2.mem_iff.mp hp)) hor1 hdr1 (sbp _ _), by rw [hl]; exact led2, by rw [r2.length_eq, hm']; omega⟩ r2

/-- the elements of a set of one -/
theorem walk_one {e : Int × Value} {Q : Array (Int × Value) → Shared → Prop} (ho : ∃ ob, s.heap.get? o = some ob ∧ ob.data = .set #[e] ep t) (hf : t.fits 1 = true) (h : Q #[e] s) : wpAny (model P w) A (setWalk o) Q E s := by
  obtain ⟨ob, ho, hd⟩ := ho
  unfold setWalk
  refine wpAny_bind (wpAny_setState_of ho hd hf ?_)
  dsimp only
  refine wpAny_bind (wpAny_byText ?_)
  by_cases hb : w.params.followText "set-order" = true
  · refine wp_if_pos hb ?_
    have one := Array.toList_inj.mp (List.perm_singleton.mp (pick_perm (w.params.setOrder o ep) #[e]))
    refine wpAny_bind (wpAny_askSetting (wpAny_pure ?_))
    show Q (pickOrder (w.params.setOrder o ep) #[e]) s
    rw [one]
    exact h
  · have alone : (!t.plain && decide ((#[e] : Array (Int × Value)).size > 1)) = false := by simp
    have ledby : ((!t.led && decide ((#[e] : Array (Int × Value)).size > 1)) = true) = False := by simp
    refine wp_if_neg hb ?_
    try refine wpAny_bind (wpAny_pure ?_)
    refine wp_if_neg (fun z => Bool.false_ne_true (alone.symm.trans z)) ?_
    try refine wpAny_bind (wpAny_pure ?_)
    refine wpAny_bind ?_
    refine wp_if_neg (fun z => cast ledby z) (wpAny_pure ?_)
    exact wpAny_pure h

/-- one new key put in where there is room -/
theorem add_one (R : SetW P w s.heap a L es ep t) {x : Addr} {k : Ky} (hx : IsK P w s.heap k x) (hu : A.units < cLine) (hm : k ∉ L.map (·.2)) (hroom : (L.length + 1) * 5 < t.mask * 3) {Q : Bool → Shared → Prop}
    (hQ : ∀ b h' L' es' ep' t', Heap.SameBut a s.heap h' → SetW P w h' a L' es' ep' t' → L'.Perm ((x, k) :: L) → Q b { s with heap := h' }) :
    wpAny (model P w) A (setAddHashed a (.ref x) (khash P w k)) Q E s := by
  obtain ⟨ob, ho, hex, hd⟩ := R.ob
  have hle := R.le
  have h127 := R.mok.le
  obtain ⟨K, hKf, hK, hKb⟩ := R.mok.full.free t.place.toList (by rw [Array.length_toList, R.sz]; exact hle) (khash P w k)
  have hbig : K < 100000 := by
    have : 10 * SetTable.turns t.mask ≤ 1420 := by
      unfold SetTable.turns
      omega
    omega
  unfold setAddHashed
  refine wpAny_holding ?_
  rw [show (100000 : Nat) = 99999 + 1 from rfl, setAddHashedIn_succ]
  refine wpAny_bind (wpAny_setState_of ho hd R.fits ?_)
  dsimp only
  refine wp_if_neg (by simp [byScan, Value.scannable]) ?_
  try refine wpAny_bind (wpAny_pure ?_)
  refine wpAny_bind (search_go R hx hu hKf hK hKb (fun z => absurd z hm) (fun _ => ?_) 100000 0 none rfl (Nat.zero_le _) (by omega) fun i p hp hk => absurd (List.mem_map.mpr ⟨p, List.mem_of_getElem? hp, hk⟩) hm)
  dsimp only
  refine wpAny_bind (wpAny_setState_of ho hd R.fits ?_)
  dsimp only
  refine by_value hx fun c => ?_
  obtain ⟨t1, et, p1, d1, m1, l1⟩ := put_kind (t.put (way t.mask (khash P w k) K)).1 c
  rw [et]
  refine wpAny_bind (put_store R hx hm (by omega) hK p1 d1 m1 l1 fun h1 L1 es1 sb R1 eL => ?_)
  have m1 : t1.mask = t.mask := m1
  have pm : L1.Perm ((x, k) :: L) := by rw [eL]; exact put_perm L _ (x, k)
  have hlen : L1.length = L.length + 1 := pm.length_eq
  have hfill : t1.fill = L.length + 1 := by
    show t1.place.size + t1.dummies.size = _
    rw [R1.sz, R1.dm, hlen] <;> rfl
  have hf : ¬ t1.tooFull = true := by
    unfold SetTable.tooFull
    rw [decide_eq_true_eq, hfill, m1]
    omega
  first
    | refine wp_if_neg (by simp [hf]) ?_
    | (refine wpAny_bind ?_; refine wp_if_neg (by simp [hf]) ?_; refine wpAny_pure ?_)
  exact wpAny_pure (hQ true h1 L1 es1 _ t1 sb R1 pm)

/-- a set takes the element of a set of one, a new one -/
theorem merge_one {x : Addr} {k : Ky} (Rr : SetW P w s.heap r L er epr tr) (Ro : SetW P w s.heap o [(x, k)] es ep t) (hne : r ≠ o) (hfew : L.length ≤ 61) (hm : k ∉ L.map (·.2)) (hu : A.units < cLine) {each : Sem Unit}
    (heach : ∀ (s' : Shared) (Q' : Unit → Shared → Prop), (∃ ob, s'.heap.get? o = some ob ∧ ob.data = .set es ep t) → Q' () s' → wpAny (model P w) A each Q' E s') {Q : Unit → Shared → Prop}
    (hQ : ∀ h' L' es' ep' t', Heap.SameBut r s.heap h' → SetW P w h' r L' es' ep' t' → L'.Perm ((x, k) :: L) → Q () { s with heap := h' }) :
    wpAny (model P w) A (setMerge r o each) Q E s := by
  by_cases hL : L = []
  · subst hL
    exact merge_new Rr Ro hne (by simp) fun h' L' es' ep' t' sb R' pm => hQ h' L' es' ep' t' sb R' pm
  obtain ⟨ob, ho, hex, hd⟩ := Ro.ob
  obtain ⟨obr, hor, hexr, hdr⟩ := Rr.ob
  have hes : es = #[(khash P w k, Value.ref x)] := Array.toList_inj.mp Ro.rows
  unfold setMerge
  refine wp_if_neg (by simp [hne]) ?_
  try refine wpAny_bind (wpAny_pure ?_)
  refine wpAny_bind (wpAny_setState_of ho hd Ro.fits ?_)
  dsimp only
  refine wp_if_neg (by rw [hes]; simp) ?_
  try refine wpAny_bind (wpAny_pure ?_)
  rw [Ro.size]
  refine wpAny_bind (room_for Rr (by show L.length + 1 ≤ 63; omega) fun h1 L1 er1 ep1 tr1 sb1 R1 pm1 hroom => ?_)
  have Ro1 : SetW P w h1 o [(x, k)] es ep t := Ro.other hor hdr (Ne.symm hne) sb1
  obtain ⟨obr1, hor1, hexr1, hdr1⟩ := R1.ob
  refine wpAny_bind (wpAny_setState_of (s := { s with heap := h1 }) hor1 hdr1 (SetW.fits (s := { s with heap := h1 }) R1) ?_)
  dsimp only
  have hfill : (tr1.fill != 0) = true := by
    have z : tr1.fill = L.length := by
      show tr1.place.size + tr1.dummies.size = _
      rw [R1.sz, R1.dm, pm1.length_eq] <;> rfl
    have y : L.length ≠ 0 := fun e => hL (List.eq_nil_of_length_eq_zero e)
    rw [z]
    simpa using y
  unfold SetTable.road
  rw [hfill]
  simp only [if_true]
  obtain ⟨ob1, ho1, hex1, hd1⟩ := Ro1.ob
  have hf1 : t.fits es.size = true := SetW.fits (s := { s with heap := h1 }) Ro1
  refine wpAny_bind (m := setWalkUnseen o [r] (some r)) ?_
  unfold setWalkUnseen
  refine wpAny_bind (wpAny_setState_of (s := { s with heap := h1 }) ho1 hd1 hf1 ?_)
  dsimp only
  refine wpAny_bind (wpAny_byText ?_)
  refine wp_if_pos (by rw [hes]; simp) ?_
  have w1 : ∀ (Q' : Array (Int × Value) → Shared → Prop), Q' #[(khash P w k, Value.ref x)] { s with heap := h1 } → wpAny (model P w) A (setWalk o) Q' E { s with heap := h1 } := fun Q' q =>
    walk_one (s := { s with heap := h1 }) (ep := ep) (t := t) ⟨ob1, ho1, by rw [← hes]; exact hd1⟩ (by rw [hes] at hf1; exact hf1) q
  first
    | refine wpAny_bind (w1 _ (wpAny_pure ?_))
    | refine w1 _ ?_
  have hk1 : k ∉ L1.map (·.2) := fun z => hm ((pm1.map (·.2)).mem_iff.mp z)
  refine wpAny_bind ?_
  rw [← Array.forIn_toList]
  show wpAny _ _ (forIn [(khash P w k, Value.ref x)] _ _) _ _ _
  rw [List.forIn_cons]
  refine wpAny_bind ?_
  dsimp only
  refine wpAny_bind (wpAny_holding (add_one (s := { s with heap := h1 }) R1 (Ro1.tup (x, k) List.mem_cons_self) hu hk1 (by rw [pm1.length_eq]; exact hroom) fun b h2 L2 es2 ep2 t2 sb2 R2 pm2 => ?_))
  have ho2 : h2.get? o = some ob1 := (sb2.2 o (Ne.symm hne)).trans ho1
  refine wpAny_bind (heach _ _ ⟨ob1, ho2, hd1⟩ ?_)
  refine wpAny_bind (wpAny_setState_of (s := { s with heap := h2 }) ho2 hd1 hf1 ?_)
  dsimp only
  refine wp_if_neg (by simp) ?_
  try refine wpAny_bind (wpAny_pure ?_)
  refine wpAny_pure ?_
  dsimp only
  rw [List.forIn_nil]
  exact wpAny_pure (wpAny_pure (hQ h2 L2 es2 ep2 t2 (sb1.trans sb2) R2 (pm2.trans (pm1.cons _))))

/-! ### x | y -/
theorem entry_set_or : entryFor table "set.__or__" = some Builtin.«frozenset.__or__» :=
  entryFor_alias (id' := "frozenset.__or__") (by kernel_rfl) rfl (by decide +kernel) (by kernel_rfl)
end
end Ho
end

section
set_option Elab.async false
set_option linter.all false
set_option maxRecDepth 100000
set_option maxHeartbeats 4000000
/-! K3e: x | y, len, sorted of such sets; the rules of the layer. -/
namespace Ho
open PySem PySem.Spec PyProof.Rows L2
section
variable {P : Program} {w : World} {A : Around} {E : Value → Shared → Prop} {s : Shared}
variable {a b r o : Addr} {L : List (Addr × Ky)} {es er : Array (Int × Value)} {ep epr : Nat} {t tr : SetTable}
theorem SetW.type (R : SetW P w s.heap a L es ep t) : s.TypeIs (.ref a) "set" := by
  obtain ⟨ob, ho, hex, _⟩ := R.ob
  exact ⟨ob, ho, hex.1⟩
theorem SetW.keep {h h' : Heap} (R : SetW P w h a L es ep t) (k : ∀ c u, h.get? c = some u → h'.get? c = some u) : SetW P w h' a L es ep t := by
  obtain ⟨ob, ho, r⟩ := R.ob
  exact ⟨⟨ob, k _ _ ho, r⟩, R.rows, R.ris, R.sz, R.dm, R.mok, R.nd, fun p hp => isK_keep (R.tup p hp) k, R.led, R.le⟩
theorem any_set {v : Value} (hT : s.TypeIs v "set") {Q : Bool → Shared → Prop} (h : Q true s) : wpAny (model P w) A (Builtin.Frozenset.isAnySet v) Q E s := by
  unfold Builtin.Frozenset.isAnySet
  unfold orM
  refine wpAny_bind (wpAny_isInstance hT sub_set_self ?_)
  exact wpAny_pure h
/-- a copy -/
theorem copy_set (R : SetW P w s.heap a L es ep t) (hfew : L.length ≤ 62) {Q : Value → Shared → Prop}
    (hQ : ∀ h' L' es' ep' t', (∀ c u, s.heap.get? c = some u → h'.get? c = some u) → SetW P w h' s.heap.objs.size L' es' ep' t' → L'.Perm L → Q (.ref s.heap.objs.size) { s with heap := h' }) :
    wpAny (model P w) A (Builtin.Frozenset.copyOf a) Q E s := by
  have hT := R.type
  have hlt : a < s.heap.objs.size := by
    obtain ⟨ob, ho, _⟩ := R.ob
    exact Heap.lt_size ho
  unfold Builtin.Frozenset.copyOf Builtin.Frozenset.baseOf
  refine wpAny_bind (wpAny_bind (wpAny_isInstance hT sub_set_self ?_))
  simp only [if_true]
  refine wpAny_pure ?_
  unfold newSet setsByText
  refine wpAny_bind (wpAny_bind (wpAny_bind (wpAny_askSetting (wpAny_pure ?_))))
  dsimp only
  simp only [newObj]
  refine wpAny_bind (wpAny_alloc (wpAny_pure ?_))
  unfold Builtin.Frozenset.addrOf
  refine wpAny_bind (wpAny_pure ?_)
  have kp : ∀ c u, s.heap.get? c = some u → (s.heap.push (noSet w)).get? c = some u := fun c u e => Heap.get?_push_of_some _ e
  refine wpAny_bind (merge_new (s := { s with heap := s.heap.push (noSet w) }) (set_new (P := P) (Heap.get?_push_size _ rfl)).toW (R.keep kp) (Nat.ne_of_gt hlt) hfew fun h' L' es' ep' t' sb R' pm => ?_)
  refine wpAny_pure (hQ h' L' es' ep' t' (fun c u e => (sb.2 c (Nat.ne_of_lt (Heap.lt_size e))).trans (kp c u e)) R' pm)

/-- x | y, y a set of one -/
theorem union_one {x : Addr} {k : Ky} (Ra : SetW P w s.heap a L es ep t) (Rb : SetW P w s.heap b [(x, k)] er epr tr) (hfew : L.length ≤ 61) (hm : k ∉ L.map (·.2)) (hu : A.units + 1 < cLine) {Q : Value → Shared → Prop}
    (hQ : ∀ h' L' es' ep' t', (∀ c u, s.heap.get? c = some u → h'.get? c = some u) → SetW P w h' s.heap.objs.size L' es' ep' t' → L'.Perm ((x, k) :: L) → Q (.ref s.heap.objs.size) { s with heap := h' }) :
    wpAny (model P w) A (binaryOp .BitOr (.ref a) (.ref b)) Q E s := by
  have hTa := Ra.type
  have hTb := Rb.type
  have hlb : b < s.heap.objs.size := by
    obtain ⟨ob, ho, _⟩ := Rb.ob
    exact Heap.lt_size ho
  have hab : a ≠ b := by
    rintro rfl
    obtain ⟨ob, ho, _, hd⟩ := Ra.ob
    obtain ⟨ob', ho', _, hd'⟩ := Rb.ob
    rw [ho] at ho'
    cases ho'
    rw [hd] at hd'
    injection hd' with h1 h2 h3
    subst h1
    have q := Ra.rows.symm.trans Rb.rows
    have hx : (khash P w k, Value.ref x) ∈ rowsK P w L := by rw [q]; exact List.mem_singleton.mpr rfl
    obtain ⟨p, hp, e⟩ := List.mem_map.mp hx
    have e2 : Value.ref p.1 = Value.ref x := congrArg Prod.snd e
    injection e2 with e2
    have k1 := Ra.tup p hp
    have k2 := Rb.tup (x, k) List.mem_cons_self
    rw [e2] at k1
    exact hm (List.mem_map.mpr ⟨p, hp, k1.inj k2⟩)
  refine wpAny_binaryOp_same hTa hTb F.fills_set_or F.slot_set_or (wpAny_call_entry F.slot_set_or hTa entry_set_or ?_ (F.args_set_or_2 _ _))
  unfold Builtin.«frozenset.__or__»
  refine wpAny_bind (m := Builtin.Frozenset.slot1 "__or__" _) (wpAny_pure ?_)
  dsimp only
  refine wpAny_bind ?_
  unfold andM
  refine wpAny_bind (any_set hTa ?_)
  show wpAny _ _ (Builtin.Frozenset.isAnySet (.ref b)) _ _ _
  refine any_set hTb ?_
  simp only [Bool.not_true, Bool.false_eq_true, if_false]
  try refine wpAny_bind (wpAny_pure ?_)
  refine wpAny_bind ?_
  refine wpAny_bind (m := Builtin.Frozenset.copyOf a) (copy_set Ra (by omega) fun h1 L1 es1 ep1 t1 k1 R1 pm1 => ?_)
  dsimp only
  refine wp_if_pos (by simp [hab.symm]) ?_
  refine wpAny_bind (wpAny_pure ?_)
  have Rb1 : SetW P w h1 b [(x, k)] er epr tr := Rb.keep k1
  have hT1 : Shared.TypeIs { s with heap := h1 } (.ref b) "set" := SetW.type (s := { s with heap := h1 }) Rb1
  refine wpAny_bind (wpAny_holding ?_)
  unfold Builtin.Frozenset.updateFrom
  refine wpAny_bind (any_set hT1 ?_)
  simp only [if_true]
  unfold Builtin.Frozenset.addrOf
  refine wpAny_bind (wpAny_pure ?_)
  unfold Builtin.Frozenset.merge
  obtain ⟨obb, hob, hexb, hdb⟩ := Rb1.ob
  have hfb : tr.fits er.size = true := SetW.fits (s := { s with heap := h1 }) Rb1
  refine wpAny_bind (wpAny_setEpoch_of (s := { s with heap := h1 }) hob hdb hfb ?_)
  refine merge_one (s := { s with heap := h1 }) R1 Rb1 (Nat.ne_of_gt hlb) (by rw [pm1.length_eq]; exact hfew) (fun z => hm ((pm1.map (·.2)).mem_iff.mp z)) (by show A.units + 1 < cLine; exact hu) (fun s' Q' ⟨ob, ho, hd⟩ hq => ?_) fun h2 L2 es2 ep2 t2 sb2 R2 pm2 => ?_
  · unfold Builtin.Frozenset.unchanged
    refine wpAny_bind (wpAny_setEpoch_of ho hd hfb ?_)
    exact wp_if_neg (by simp) (wpAny_pure hq)
  · refine wpAny_pure ?_
    have kk : ∀ c u, s.heap.get? c = some u → h2.get? c = some u := fun c u e => (sb2.2 c (Nat.ne_of_lt (Heap.lt_size e))).trans (k1 c u e)
    exact wpAny_pure ⟨_, rfl, (fun z => nomatch z), hQ h2 L2 es2 ep2 t2 kk R2 (pm2.trans (pm1.cons _))⟩
end
end Ho
end

section
set_option Elab.async false
set_option linter.all false
set_option maxRecDepth 100000
set_option maxHeartbeats 1000000
/-! K3f: sorted of lists and sets of rooms; the rules of the layer. -/
namespace Ho
open PySem PySem.W PySem.SeqAt PySem.Calls PyProof.Rows
/-- a rearranged image is the image of a rearranged list -/
theorem perm_map {B C : Type} [DecidableEq B] (f : B → C) : ∀ (vs : List C) (L : List B), vs.Perm (L.map f) → ∃ L' : List B, L'.Perm L ∧ vs = L'.map f
  | [], L, h => by
    have e : L = [] := by
      have q := h.length_eq
      rw [List.length_map] at q
      exact List.eq_nil_of_length_eq_zero q.symm
    exact ⟨[], by rw [e], rfl⟩
  | v :: vs, L, h => by
    obtain ⟨q, hq, rfl⟩ := List.mem_map.mp (h.mem_iff.mp List.mem_cons_self)
    have p1 := List.perm_cons_erase hq
    have p2 := (p1.map f)
    rw [List.map_cons] at p2
    obtain ⟨L', p3, e⟩ := perm_map f vs (L.erase q) ((h.trans p2).cons_inv)
    exact ⟨q :: L', (p3.cons q).trans p1.symm, by rw [List.map_cons, e]⟩
section
variable {P : Program} {w : World} {A : Around} {E : Value → Shared → Prop} {s : Shared}
theorem each_refs {h : Heap} : ∀ {L : List (Addr × Rm)}, (∀ p ∈ L, ∃ as, Reads h (.ref p.1) (enc p.2) as) → EachIs (fun v b => ∃ as, Reads h v (enc b) as) (L.map fun p => Value.ref p.1) (L.map (·.2))
  | [], _ => .nil
  | p :: L, h => .cons (h p List.mem_cons_self) (each_refs fun q hq => h q (List.mem_cons_of_mem _ hq))
theorem each_pairs : ∀ L : List (Addr × Rm), EachIs (fun v (p : Addr × Rm) => v = Value.ref p.1) (L.map fun p => Value.ref p.1) L
  | [] => .nil
  | p :: L => .cons rfl (each_pairs L)
theorem each_reads {h : Heap} : ∀ {L : List (Addr × Rm)}, (∀ p ∈ L, ∃ as, Reads h (.ref p.1) (enc p.2) as) → EachIs (fun v (p : Addr × Rm) => ∃ as, Reads h v (enc p.2) as) (L.map fun p => Value.ref p.1) L
  | [], _ => .nil
  | p :: L, h => .cons (h p List.mem_cons_self) (each_reads fun q hq => h q (List.mem_cons_of_mem _ hq))
theorem eq_refs : ∀ {out : List Value} {L : List (Addr × Rm)}, EachIs (fun v (p : Addr × Rm) => v = Value.ref p.1) out L → out = L.map fun p => Value.ref p.1
  | _, _, .nil => rfl
  | _, _, .cons e t => by rw [e, eq_refs t] <;> rfl
/-- the sorted rows -/
def rowsUp (L : List (Addr × Rm)) : List (Addr × Rm) := L.mergeSort (dataLe false fun p => enc p.2)
theorem rowsUp_perm (L : List (Addr × Rm)) : (rowsUp L).Perm L := List.mergeSort_perm _ _
theorem rowsUp_le (L : List (Addr × Rm)) : ((rowsUp L).map (·.2)).Pairwise fun a b => rmLt b a = false := by
  have e : (rowsUp L).map (·.2) = (L.map (·.2)).mergeSort (dataLe false enc) := sort_maps (fun (p : Addr × Rm) => p.2) fun a _ b _ => rfl
  rw [e]
  exact sorted_le _
theorem map_enc (L : List (Addr × Rm)) : (L.map (·.2)).map enc = L.map fun p => enc p.2 := by rw [List.map_map] <;> rfl
/-- list.sort of rooms -/
theorem sort_rows {a : Addr} {L : List (Addr × Rm)} {n : Nat} {Q : Value → Shared → Prop} (ho : s.heap.get? a = some (seqObj "list" (L.map fun p => Value.ref p.1).toArray n))
    (hk : ∀ p ∈ L, ∀ (h' : Heap), (∀ b o, b ≠ a → s.heap.get? b = some o → h'.get? b = some o) → ∃ as, Reads h' (.ref p.1) (enc p.2) as) (hL : L.length ≤ sizeLine) (hu : A.units + 2 < cLine)
    (h : Q .none { s with heap := sortedHeap s.heap a (L.map fun p => Value.ref p.1) ((rowsUp L).map fun p => Value.ref p.1).toArray }) :
    wpAny (model P w) A (call (.builtin "list.sort") [.ref a]) Q E s := by
  have hrr : ∀ p ∈ L, ∃ as, Reads (sortingHeap s.heap a (L.map fun p => Value.ref p.1)) (.ref p.1) (enc p.2) as := fun p hp => hk p hp _ fun b o hb e => sortingHeap_old hb e
  have S := sorts_rooms (prog := P) (w := w) (A := A.in1) (s := { s with heap := sortingHeap s.heap a (L.map fun p => Value.ref p.1) }) (each_refs hrr) hu
  have e := eq_refs (sortVals_data (h' := sortingHeap s.heap a (L.map fun p => Value.ref p.1)) (enc := fun (p : Addr × Rm) => enc p.2) false (each_pairs L) (each_reads hrr) (by
    rw [← map_enc]
    exact all_alike _))
  rw [← map_enc] at e
  have hL' : (L.map fun p => Value.ref p.1).length ≤ sizeLine := by rw [List.length_map]; exact hL
  revert S e
  generalize dataKind (sortingHeap s.heap a (L.map fun p => Value.ref p.1)) ((L.map (·.2)).map enc) = κ
  intro S e
  refine wpAny_call_entry slot_list_sort ⟨_, ho, rfl⟩ entry_list_sort (list_sort_vals ho S hL' ⟨.none, rfl, ?_⟩) (args_list_sort _)
  rw [e]
  exact h
/-- sorted(xs), xs a list of rooms -/
theorem sorted_rows {l : Addr} {L : List (Addr × Rm)} {Q : Value → Shared → Prop} (hl : s.heap.IsList l (L.map fun p => Value.ref p.1).toArray) (hk : ∀ p ∈ L, ∀ (h' : Heap), (∀ b o, s.heap.get? b = some o → h'.get? b = some o) → ∃ as, Reads h' (.ref p.1) (enc p.2) as)
    (hL : L.length ≤ sizeLine) (hu : A.units + 3 < cLine)
    (h : Q (.ref (s.heap.objs.size + 1)) { s with heap := sortedAll s.heap (L.map fun p => Value.ref p.1) ((rowsUp L).map fun p => Value.ref p.1).toArray }) :
    wpAny (model P w) A (call (.builtin "sorted") [.ref l]) Q E s := by
  have hrr : ∀ p ∈ L, ∃ as, Reads (sortingHeap (copyHeap s.heap (L.map fun p => Value.ref p.1)) (s.heap.objs.size + 1) (L.map fun p => Value.ref p.1)) (.ref p.1) (enc p.2) as := fun p hp => hk p hp _ fun b o e => sorting_copy_old e
  have S := sorts_rooms (prog := P) (w := w) (A := A.in1.in1) (s := { s with heap := sortingHeap (copyHeap s.heap (L.map fun p => Value.ref p.1)) (s.heap.objs.size + 1) (L.map fun p => Value.ref p.1) }) (each_refs hrr) hu
  have e := eq_refs (sortVals_data (h' := sortingHeap (copyHeap s.heap (L.map fun p => Value.ref p.1)) (s.heap.objs.size + 1) (L.map fun p => Value.ref p.1)) (enc := fun (p : Addr × Rm) => enc p.2) false (each_pairs L) (each_reads hrr) (by
    rw [← map_enc]
    exact all_alike _))
  rw [← map_enc] at e
  have hL' : (L.map fun p => Value.ref p.1).length ≤ sizeLine := by rw [List.length_map]; exact hL
  revert S e
  generalize dataKind (sortingHeap (copyHeap s.heap (L.map fun p => Value.ref p.1)) (s.heap.objs.size + 1) (L.map fun p => Value.ref p.1)) ((L.map (·.2)).map enc) = κ
  intro S e
  refine sorted_vals hl S hL' ?_
  rw [e]
  exact h
end
end Ho

namespace Ho
open PySem PySem.Spec PyProof.Rows L2
/-- a room as a key -/
abbrev ro (r : Rm) : Ky := r.map Sum.inr
theorem ro_kV (r : Rm) : (ro r).map kV = r.map V.str := by rw [List.map_map] <;> rfl
theorem ro_inj {a b : Rm} (h : ro a = ro b) : a = b := List.map_inj_right (fun _ _ e => Sum.inr.inj e) |>.mp h
section
variable {P : Program} {w : World} {A : Around} {E : Value → Shared → Prop} {s : Shared}
theorem reads_items {h : Heap} : ∀ {r : Rm} {us : List Value}, ItemsAre (mixKind P w) (ro r) us → ∃ as, ReadsAll h us (r.map PyData.str) as
  | [], _, hi => by
    cases hi
    exact ⟨_, .nil⟩
  | x :: r, _, hi => by
    cases hi with
    | @cons _ v _ us h1 h2 =>
      rcases keyIs_shape (show keyIs (Sum.inr x) v = true from h1) with ⟨i, t, e, _⟩ | ⟨y, t, e, rfl⟩
      · cases e
      · cases e
        obtain ⟨as, q⟩ := reads_items h2
        exact ⟨_, .cons (.str _ _) q⟩
theorem reads_key {h : Heap} {r : Rm} {a : Addr} (x : IsK P w h (ro r) a) : ∃ as, Reads h (.ref a) (enc r) as := by
  obtain ⟨o, items, n, ho, hc, hd, hi⟩ := x
  obtain ⟨as, q⟩ := reads_items (h := h) hi
  exact ⟨_, .tuple ho hc hd q⟩
/-- rows of rooms as rows of keys -/
abbrev kys (L : List (Addr × Rm)) : List (Addr × Ky) := L.map fun p => (p.1, ro p.2)
/-- sorted(x), x a set of rooms -/
theorem sorted_set {a : Addr} {L : List (Addr × Rm)} {es : Array (Int × Value)} {ep : Nat} {t : SetTable} {Q : Value → Shared → Prop} (R : SetW P w s.heap a (kys L) es ep t) (hh : A.handled = none) (hfew : L.length ≤ 63) (hu : A.units + 3 < cLine)
    (hQ : ∀ s' p (out : Array Value) (c : Nat) (L' : List (Addr × Rm)), (∀ b o, s.heap.get? b = some o → s'.heap.get? b = some o) → s'.gens = s.gens → s'.os = s.os → s.heap.objs.size ≤ p →
      s'.heap.get? p = some (seqObj "list" out c) → out.toList = L'.map (fun q => Value.ref q.1) → L'.Perm L → (L'.map (·.2)).Pairwise (fun q r => rmLt r q = false) → Q (.ref p) s') :
    wpAny (model P w) A (call (.builtin "sorted") [.ref a]) Q E s := by
  obtain ⟨o, ho, hex, hd⟩ := R.ob
  have hsz := R.size
  have hlk : (kys L).length = L.length := List.length_map _
  refine Calls.call_function_entry kind_sorted plain_sorted entry_sorted (args_sorted1 _) ?_
  unfold Builtin.«sorted»
  refine wpAny_bind (m := checkCount "sorted" 1 1 _) (wpAny_pure ?_)
  refine wpAny_bind (collect_set (A := A.in1) hh ⟨o, ho, hex.1, hd⟩ R.fits (by unfold scanBound; omega) R.ris R.led fun s1 vs k1 hz g1 o1 pm => ?_)
  have hes : es.toList.map (·.2) = L.map fun q => Value.ref q.1 := by
    rw [R.rows]
    unfold rowsK
    rw [List.map_map, List.map_map] <;> rfl
  rw [hes] at pm
  obtain ⟨L1, p1, rfl⟩ := perm_map (fun (q : Addr × Rm) => Value.ref q.1) vs L pm
  have hsl : L1.length ≤ sizeLine := by rw [p1.length_eq, sizeLine_eq]; omega
  refine wpAny_bind (wpAny_newList ?_ (by rw [List.length_map]; exact hsl))
  have hoL : (s1.heap.push (seqObj "list" (L1.map fun q => Value.ref q.1).toArray 0)).get? s1.heap.objs.size = some (seqObj "list" (L1.map fun q => Value.ref q.1).toArray 0) := Heap.get?_push_size _ rfl
  have tk : ∀ q ∈ L1, ∀ h' : Heap, (∀ b o, b ≠ s1.heap.objs.size → (s1.heap.push (seqObj "list" (L1.map fun q => Value.ref q.1).toArray 0)).get? b = some o → h'.get? b = some o) → IsK P w h' (ro q.2) q.1 := fun q hq h' k => by
    have hk := R.tup (q.1, ro q.2) (List.mem_map.mpr ⟨q, p1.mem_iff.mp hq, rfl⟩)
    refine isK_keep hk fun c u e => ?_
    have e1 := k1 c u e
    exact k c u (Nat.ne_of_lt (Heap.lt_size e1)) (Heap.get?_push_of_some _ e1)
  have ne1 : ∀ q ∈ L1, q.1 ≠ s1.heap.objs.size := fun q hq => by
    obtain ⟨ob, _, _, e, _⟩ := R.tup (q.1, ro q.2) (List.mem_map.mpr ⟨q, p1.mem_iff.mp hq, rfl⟩)
    exact Nat.ne_of_lt (Heap.lt_size (k1 _ _ e))
  refine wpAny_bind (wpAny_holding (sort_rows (s := { s1 with heap := s1.heap.push (seqObj "list" (L1.map fun q => Value.ref q.1).toArray 0) }) hoL (fun q hq h' k => reads_key (tk q hq h' k)) hsl (by show A.units + 1 + 2 < cLine; omega) ?_))
  obtain ⟨c, hc⟩ := sortedHeap_at (vs := L1.map fun q => Value.ref q.1) (out := ((rowsUp L1).map fun q => Value.ref q.1).toArray) hoL
  refine wpAny_pure ⟨_, rfl, hQ _ s1.heap.objs.size _ c (rowsUp L1) (fun b u e => ?_) g1 o1 hz hc (by rw [List.toList_toArray]) ((rowsUp_perm L1).trans p1) (rowsUp_le L1)⟩
  have q := k1 b u e
  have hlt := Heap.lt_size q
  show (sortedHeap (s1.heap.push (seqObj "list" (L1.map fun q => Value.ref q.1).toArray 0)) s1.heap.objs.size (L1.map fun q => Value.ref q.1) _).get? b = some u
  rw [sortedHeap_old (Nat.ne_of_lt hlt) (by rw [size_push']; exact Nat.lt_succ_of_lt hlt)]
  exact Heap.get?_push_of_some _ q
end

/-! ### sets at the layer -/
/-- the set at a, without the tuples themselves -/
def SetE (P : Program) (w : World) (h : Heap) (a : Addr) (L : List (Addr × Ky)) : Prop :=
  ∃ (es : Array (Int × Value)) (ep : Nat) (t : SetTable), (∃ o, h.get? a = some o ∧ o.ExactSet ∧ o.data = .set es ep t) ∧ es.toList = rowsK P w L ∧ L2.Ris t.place.toList ∧ t.place.size = L.length ∧ t.dummies = #[] ∧ Msk t.mask ∧ (L.map (·.2)).Nodup ∧
    (w.params.followText "set-order" = true ∨ t.led = true) ∧ L.length ≤ t.mask
def SetO (P : Program) (w : World) (a : Addr) (L : List (Addr × Ky)) : HO := .ext fun h => SetE P w h a L
theorem SetW.out {P : Program} {w : World} {h : Heap} {a : Addr} {L : List (Addr × Ky)} {es : Array (Int × Value)} {ep : Nat} {t : SetTable} (R : SetW P w h a L es ep t) : SetE P w h a L :=
  ⟨es, ep, t, R.ob, R.rows, R.ris, R.sz, R.dm, R.mok, R.nd, R.led, R.le⟩
theorem SetE.full {P : Program} {w : World} {h : Heap} {a : Addr} {L : List (Addr × Ky)} (R : SetE P w h a L) (ht : ∀ p ∈ L, IsK P w h p.2 p.1) : ∃ es ep t, SetW P w h a L es ep t := by
  obtain ⟨es, ep, t, h1, h2, h3, h4, h5, h6, h7, h8, h9⟩ := R
  exact ⟨es, ep, t, h1, h2, h3, h4, h5, h6, h7, ht, h8, h9⟩
theorem setO_new {P : Program} {w : World} {H : Hp} {h : Heap} {a : Addr} {L : List (Addr × Ky)} (R : SetE P w h a L) : ObjOk P w H h a (SetO P w a L) := by
  have ⟨es, ep, t, ⟨o, ho, r⟩, q⟩ := R
  refine ⟨R, ⟨o, ho⟩, fun h1 h2 p k => ?_⟩
  obtain ⟨es', ep', t', ⟨o', ho', r'⟩, q'⟩ := p
  exact ⟨es', ep', t', ⟨o', k o' ho', r'⟩, q'⟩
section
variable {X : Cx}
theorem Inv.isK {pins : List (Addr × Obj)} {σ : L2.St} {H : Hp} {s : Shared} {b : Addr} {r : Rm} (I : L2.Inv X pins σ H s) (h : H b = some (.tup (r.map V.str))) : IsK X.prog X.w s.heap (ro r) b := by
  have q := key_of (P := X.prog) (w := X.w) (ks := ro r) I.hok (by rw [ro_kV]; exact h)
  exact q
theorem refs_vals : ∀ {ks : List (Addr × Rm)} {us : List Value}, Vals (ks.map fun p => V.ref p.1) us → us = ks.map fun p => Value.ref p.1
  | [], _, .nil => rfl
  | p :: ks, _, .cons r t => by
    cases r
    rw [refs_vals t] <;> rfl
theorem vals_refs' : ∀ (ks : List (Addr × Rm)), Vals (ks.map fun p => V.ref p.1) (ks.map fun p => Value.ref p.1)
  | [] => .nil
  | p :: ks => .cons rfl (vals_refs' ks)
/-- the rows stand in the heap -/
def RowsIn (H : Hp) (L : List (Addr × Rm)) : Prop := ∀ p ∈ L, H p.1 = some (.tup (p.2.map V.str))
/-- set(xs), xs a list of rooms, unlike ones below 63 -/
def rSetR (K : PySem.W.Frag) (P : Program) (w : World) : List V → Hp → VK → Prop := fun xs H Q => ∃ (l : Addr) (ks : List (Addr × Rm)) (D : List Rm), xs = [V.ref l] ∧ SqL K H l (ks.map fun p => V.ref p.1) ∧ RowsIn H ks ∧ D.length < 63 ∧ (∀ p ∈ ks, p.2 ∈ D) ∧
  ∀ a L, H a = none → (∀ p ∈ L, p ∈ ks) → (∀ p ∈ ks, p.2 ∈ L.map (·.2)) → (L.map (·.2)).Nodup → Q (.ref a) (upd H a (SetO P w a (kys L)))
theorem back_rows {L : List (Addr × Ky)} {ks : List (Addr × Rm)} (h : ∀ p ∈ L, p ∈ kys ks) : ∃ L', L = kys L' ∧ ∀ p ∈ L', p ∈ ks := by
  induction L with
  | nil => exact ⟨[], rfl, fun p hp => nomatch hp⟩
  | cons p L ih =>
    obtain ⟨L', e, hs⟩ := ih fun q hq => h q (List.mem_cons_of_mem _ hq)
    obtain ⟨q, hq, eq⟩ := List.mem_map.mp (h p List.mem_cons_self)
    refine ⟨q :: L', by rw [e, ← eq] <;> rfl, fun z hz => ?_⟩
    rcases List.mem_cons.mp hz with rfl | hz
    · exact hq
    · exact hs z hz
theorem kys_keys (L : List (Addr × Rm)) : (kys L).map (·.2) = (L.map (·.2)).map ro := by rw [List.map_map, List.map_map] <;> rfl
theorem nodup_keys {L : List (Addr × Rm)} : ((kys L).map (·.2)).Nodup ↔ (L.map (·.2)).Nodup := by
  rw [kys_keys]
  constructor
  · intro h
    exact nodup_of_map h
  · intro h
    exact List.pairwise_map.mpr (List.Pairwise.imp (fun hne e => hne (ro_inj e)) h)
theorem cr_setR (hc : X.calm = true) (hu : X.A.units + 64 < cLine) : CallR X (.type "set") (rSetR X.K X.prog X.w) := by
  intro pins s σ H xs us Q I r h
  obtain ⟨l, ks, D, rfl, hl, hk, hD, hin, q⟩ := h
  rw [Vals.ref1 r]
  obtain ⟨its, rv, pl, hz⟩ := I.list hl
  have hn : H s.heap.objs.size = none := I.hok.fresh (Nat.le_refl _)
  refine call_set (P := X.prog) (w := X.w) (kys ks) (D.map ro) (by rw [List.length_map]; exact hD) (fun p hp => ?_) (I.ok.hd hc) pl.isList ?_ (fun p hp => ?_) (by omega) fun h' tk L es ep t R g k => ?_
  · obtain ⟨q, hq, rfl⟩ := List.mem_map.mp hp
    exact List.mem_map.mpr ⟨q.2, hin q hq, rfl⟩
  · have e := refs_vals rv
    rw [List.toList_toArray, e, List.map_map] <;> rfl
  · obtain ⟨q, hq, rfl⟩ := List.mem_map.mp hp
    exact Inv.isK I (hk q hq)
  · obtain ⟨L', rfl, hs⟩ := back_rows (ks := ks) fun p hp => List.mem_of_mem_take (g.sub p hp)
    refine ⟨.ref s.heap.objs.size, upd H s.heap.objs.size (SetO X.prog X.w s.heap.objs.size (kys L')), I.laid (t' := tk) k (Nat.le_refl _) (setO_new R.toW.out), rfl, q _ L' hn hs (fun p hp => ?_) (nodup_keys.mp R.toW.nd)⟩
    have z := g.all (p.1, ro p.2) (by rw [List.take_length]; exact List.mem_map.mpr ⟨p, hp, rfl⟩)
    rw [kys_keys] at z
    obtain ⟨y, hy, e⟩ := List.mem_map.mp z
    rw [← ro_inj e]
    exact hy
theorem setO_at {pins : List (Addr × Obj)} {σ : L2.St} {H : Hp} {s : Shared} {a : Addr} {L : List (Addr × Rm)} (I : L2.Inv X pins σ H s) (ha : H a = some (SetO X.prog X.w a (kys L))) (hk : RowsIn H L) : ∃ es ep t, SetW X.prog X.w s.heap a (kys L) es ep t := by
  have R0 : SetE X.prog X.w s.heap a (kys L) := (I.hok a _ ha).1
  refine R0.full fun p hp => ?_
  obtain ⟨q, hq, rfl⟩ := List.mem_map.mp hp
  exact Inv.isK I (hk q hq)
/-- len(x) of such a set -/
def rLenSet (P : Program) (w : World) : List V → Hp → VK → Prop := fun xs H Q => ∃ (a : Addr) (L : List (Addr × Rm)), xs = [V.ref a] ∧ H a = some (SetO P w a (kys L)) ∧ RowsIn H L ∧ Q (.int (L.length : Int)) H
theorem cr_lenSet : CallR X (.builtin "len") (rLenSet X.prog X.w) := by
  intro pins s σ H xs us Q I r h
  obtain ⟨a, L, rfl, ha, hk, q⟩ := h
  rw [Vals.ref1 r]
  obtain ⟨es, ep, t, R⟩ := setO_at I ha hk
  obtain ⟨o, ho, hex, hd⟩ := R.ob
  have hz := R.size
  have hl := R.le
  have hm := R.mok.le
  rw [List.length_map] at hz hl
  refine call_len_set ho hex hd R.fits (by omega) ?_
  refine ⟨.int (es.size : Int), H, (I.tok (s.toks + 1 + 1)), ⟨_, rfl⟩, ?_⟩
  rw [hz]
  exact q
/-- x | y, y a set of one -/
def rOrSet (P : Program) (w : World) : R2 := fun x y H Q => ∃ (a b t : Addr) (L : List (Addr × Rm)) (r : Rm), x = .ref a ∧ y = .ref b ∧ H a = some (SetO P w a (kys L)) ∧ RowsIn H L ∧ H b = some (SetO P w b (kys [(t, r)])) ∧ RowsIn H [(t, r)] ∧ L.length ≤ 61 ∧ r ∉ L.map (·.2) ∧
  ∀ p L', H p = none → L'.Perm ((t, r) :: L) → Q (.ref p) (upd H p (SetO P w p (kys L')))
theorem op_orSet (hu : X.A.units + 64 < cLine) : OpR X (binaryOp .BitOr) (rOrSet X.prog X.w) := by
  intro pins s σ H x y v u Q I rx ry h
  obtain ⟨a, b, t, L, r, rfl, rfl, ha, hkL, hb, hkr, hfew, hm, q⟩ := h
  cases rx
  cases ry
  obtain ⟨es, ep, tb, Ra⟩ := setO_at I ha hkL
  obtain ⟨er, epr, tr, Rb⟩ := setO_at I hb hkr
  refine union_one (x := t) (k := ro r) Ra Rb (by rw [List.length_map]; exact hfew) (fun z => hm ?_) (by omega) fun h' L' es' ep' t' k R' pm => ?_
  · rw [kys_keys] at z
    obtain ⟨y, hy, e⟩ := List.mem_map.mp z
    rw [← ro_inj e]
    exact hy
  · obtain ⟨L2, p2, rfl⟩ := perm_map (fun (p : Addr × Rm) => (p.1, ro p.2)) L' ((t, r) :: L) pm
    exact ⟨.ref s.heap.objs.size, _, I.laid (t' := s.toks) k (Nat.le_refl _) (setO_new R'.out), rfl, q _ L2 (I.hok.fresh (Nat.le_refl _)) p2⟩
/-- sorted(x), x a set of rooms -/
def rSortedSet (P : Program) (w : World) : List V → Hp → VK → Prop := fun vs H Q => ∃ (a : Addr) (L : List (Addr × Rm)), vs = [V.ref a] ∧ H a = some (SetO P w a (kys L)) ∧ RowsIn H L ∧ L.length ≤ 63 ∧
  ∀ (L' : List (Addr × Rm)) (p : Addr), L'.Perm L → (L'.map (·.2)).Nodup → (L'.map (·.2)).Pairwise (fun q r => rmLt r q = false) → H p = none → Q (.ref p) (upd H p (.lst (L'.map fun q => V.ref q.1)))
theorem cr_sortedSet (hc : X.calm = true) (hu : X.A.units + 64 < cLine) : CallR X (.builtin "sorted") (rSortedSet X.prog X.w) := by
  intro pins s σ H vs us Q I r h
  obtain ⟨a, L, rfl, ha, hk, hfew, q⟩ := h
  rw [Vals.ref1 r]
  obtain ⟨es, ep, t, R⟩ := setO_at I ha hk
  refine sorted_set R (I.ok.hd hc) hfew (by omega) fun s' p out c L' k g o hp hg hout pm pw => ?_
  have hlen : (L'.map fun q => V.ref q.1).length ≤ sizeLine := by rw [List.length_map, pm.length_eq, sizeLine_eq]; omega
  have hn : H p = none := I.hok.fresh hp
  have hv : Vals (L'.map fun q => V.ref q.1) out.toList := by rw [hout]; exact vals_refs' L'
  have after : L2.Inv X pins σ (upd H p (.lst (L'.map fun q => V.ref q.1))) s' := I.call' (ch := []) o (Un.laid k hp hn) (I.hok.laid k hp ⟨hlen, _, c, hv, hg⟩) (g ▸ I.bare) nofun
  exact ⟨.ref p, _, after, rfl, q L' p pm ((pm.map (·.2)).nodup_iff.mpr (nodup_keys.mp R.nd)) pw hn⟩
/-- sorted(xs), xs a list of rooms -/
def rSortedR (K : PySem.W.Frag) : List V → Hp → VK → Prop := fun vs H Q => ∃ (a : Addr) (L : List (Addr × Rm)), vs = [V.ref a] ∧ SqL K H a (L.map fun q => V.ref q.1) ∧ RowsIn H L ∧
  ∀ (L' : List (Addr × Rm)) (p : Addr), L'.Perm L → (L'.map (·.2)).Pairwise (fun q r => rmLt r q = false) → H p = none → Q (.ref p) (upd H p (.lst (L'.map fun q => V.ref q.1)))
theorem cr_sortedR (hu : X.A.units + 64 < cLine) : CallR X (.builtin "sorted") (rSortedR X.K) := by
  intro pins s σ H vs us Q I r h
  obtain ⟨a, L, rfl, hl, hk, q⟩ := h
  obtain ⟨its, rv, pl, hz⟩ := I.list hl
  rw [Vals.ref1 r]
  have e := refs_vals rv
  subst e
  have hz' : L.length ≤ sizeLine := by rw [List.length_map] at hz; exact hz
  refine sorted_rows (P := X.prog) (w := X.w) pl.isList (fun p hp h' k => reads_key (isK_keep (Inv.isK I (hk p hp)) k)) hz' (by omega) ?_
  obtain ⟨ep, he'⟩ := PyProof.Rows.sortedAll_at s.heap (L.map fun p => Value.ref p.1) ((rowsUp L).map fun p => Value.ref p.1).toArray
  have hlen : ((rowsUp L).map fun q => V.ref q.1).length ≤ sizeLine := by rw [List.length_map, (rowsUp_perm L).length_eq]; exact hz'
  refine ⟨.ref _, upd H (s.heap.objs.size + 1) (.lst ((rowsUp L).map fun q => V.ref q.1)), I.laid (t' := s.toks) (fun _ _ => PyProof.Rows.sortedAll_old) (Nat.le_succ _) ⟨hlen, _, ep, vals_refs' (rowsUp L), he'⟩, rfl, q _ _ (rowsUp_perm L) (rowsUp_le L) (I.hok.fresh (Nat.le_succ _))⟩
end
end Ho
end

section
set_option Elab.async false
set_option linter.all false
set_option maxRecDepth 100000
set_option maxHeartbeats 2000000
/-! K4: a dict comprehension whose keys are tuples. -/
namespace Ho
open PySem PySem.Spec PyProof.Rows L2
/-- J holds of the block that a comprehension opens, wherever it stands -/
abbrev InBlk (X : Cx) (scope : Scope) (J : Cx → Prop) : Prop := ∀ (s : Shared) (H : Hp) (C : Addr) (cl : List (Str × Addr)) (fp : List Addr), J (X.blk s H scope (compEnvC scope cl C X.env) fp)
/-- the turns over J from H0 on: `turn` is one of them, with what it has to reach; `fin` is to hold at the end -/
def Turns (J : It) (H0 : Hp) (fin : Hp → Prop) (turn : V → Hp → (Hp → Prop) → Prop) : Prop :=
  ∃ W : Nat → Nat → Hp → Prop, (∃ m, W 0 m H0) ∧ ∀ i m H, W i m H →
    (J.stop i H ∧ fin H) ∨ (J.go i H ∧ ∃ N : Hp → Prop, (∀ H2, N H2 → ∃ m2, m2 < m ∧ W (i + 1) m2 H2) ∧ ∀ x H2, J.yld i H x H2 → turn x H2 N)
/-- D[y] = z, y a tuple that stands -/
def putT (D : Addr) (N : Hp → Prop) (y z : V) (H : Hp) : Prop := ∃ (kvs : List (List L2.Key × V)) (k : List L2.Key) (q : Addr), y = .ref q ∧ H q = some (.tup (k.map kV)) ∧ H D = some (.dT kvs) ∧ kvs.length < sizeLine ∧ N (upd H D (.dT (putK kvs k z)))
def turnT (g : TG) (tt : TT) (tk tv : TE) (vs : List Nat) (σ : L2.St) (D : Addr) : V → Hp → (Hp → Prop) → Prop := fun x H N => g x (wipe σ vs) H fun σ2 H2 => wipe σ2 vs = wipe σ vs ∧ tt σ2 H2 fun b H3 =>
  if b = true then tk σ2 H3 fun y H4 => tv σ2 H4 fun z H5 => putT D N y z H5 else N H3
/-- {k: v for target in iter if ..}, the keys tuples: D the new dict -/
def tDcT (wi : TI) (g : TG) (tt : TT) (tk tv : TE) (vs : List Nat) : TE := fun σ H Q => wi σ H fun J H1 => ∀ D, H1 D = none → Turns J (upd H1 D (.dT [])) (Q (.ref D)) (turnT g tt tk tv vs σ D)
/-- the store of one entry -/
theorem put_entry {X : Cx} {pins : List (Addr × Obj)} {σ : L2.St} {H : Hp} {s : Shared} {E : Value → Shared → Prop} {D : Addr} {N : Hp → Prop} {y z : V} {u r : Value} {Q : Unit → Shared → Prop} (units : X.A.units < cLine) (I : L2.Inv X pins σ H s) (ry : RelV y u) (rz : RelV z r) (p : putT D N y z H)
    (go : ∀ H2 s2, L2.Inv X pins σ H2 s2 → N H2 → Q () s2) : wpAny (model X.prog X.w) X.A (dictSet D u r) Q E s := by
  obtain ⟨kvs, k, q, rfl, hq, hD, few, n⟩ := p
  cases ry
  obtain ⟨size, plain, xs, rel, entries⟩ := dt_of I.hok hD
  have short : xs.length ≤ sizeLine := Paired.length rel ▸ size
  have short2 : (putK kvs k z).length ≤ sizeLine := Nat.le_trans (length_putK kvs k z) few
  refine wpAny_dictSet_heap (knd := tupleKind (mixKind X.prog X.w)) (hsz := short) units (key_of I.hok hq) entries fun h2 ⟨o, es, ep, ho, rest⟩ but => go _ _ ?_ n
  refine d_write I (by rw [hD]; trivial) but ⟨o, ho⟩ ⟨short2, plain, _, (rel.put k hq rz).keeps fun c ys ec => (upd_ne (ne_of ec hD nofun)).trans ec, o, es, ep, ho, rest.1, rest.2.1, rest.2.2.1, rest.2.2.2.2⟩
/-- between two turns -/
def Mid (Y : Cx) (fp : List Addr) (σ : L2.St) (tn : Nat → Heap → Prop) (W : Nat → Nat → Hp → Prop) (n : Nat) (s : Shared) : Prop := ∃ i H, L2.Inv Y [] σ H s ∧ tn i s.heap ∧ (∀ b ∈ fp, H b = none) ∧ W i n H
theorem fp_stay {Y : Cx} {fp : List Addr} (ex : Y.ex = fp) (pn : Y.pn = []) {σ : L2.St} {H : Hp} {s : Shared} (I : L2.Inv Y [] σ H s) (out : ∀ b ∈ fp, H b = none) : ∀ b ∈ fp, FpOk Y [] H b := by
  intro b hb
  have mem : b ∈ Y.ex := by rw [ex]; exact hb
  have ⟨apart, cell⟩ := I.ok.exf b mem
  refine ⟨out b hb, apart, I.ok.exfs b mem, .inl mem, cell, fun p hp => ?_⟩
  rw [pn] at hp
  cases hp
theorem again {Y : Cx} {fp : List Addr} {it : Addr} {tn : Nat → Heap → Prop} {J : It} {tg : Expr} (T : Turn Y.prog Y.w Y.K tg J fp it tn) {σ σ2 : L2.St} {vs : List Nat} {W : Nat → Nat → Hp → Prop} {i n : Nat} {H : Hp} {s s2 : Shared} (I : L2.Inv Y ([] ++ pinsAt fp s.heap) σ2 H s2)
    (same : wipe σ2 vs = wipe σ vs) (st : tn (i + 1) s.heap) (w : ∃ m, m < n ∧ W (i + 1) m H) : ∃ m, m < n ∧ Mid Y fp (wipe σ vs) tn W m s2 := by
  obtain ⟨m, less, w⟩ := w
  have kept {b : Addr} {o : Obj} (hb : b ∈ fp) (e : s.heap.get? b = some o) := I.pin (b, o) (List.mem_append.mpr (.inr (List.mem_append.mpr (.inr (mem_pinsAt hb e)))))
  refine ⟨m, less, i + 1, H, (I.unpinned (pins := [])).weak (by rw [← same, wipe_length]) fun j v e => ?_, T.keep _ _ _ st fun b hb o e => (kept hb e).1, fun b hb => ?_, w⟩
  · rw [← same] at e
    exact (wipe_some e).1
  · have ⟨o, e, _⟩ := T.obj _ _ st b hb
    exact (kept hb e).2.1
/-- the loop, over any block's context Y in which nothing is raised -/
theorem loop_goes {Y : Cx} {fp : List Addr} {it D : Addr} {tn : Nat → Heap → Prop} {J : It} {kx vx tg iter : Expr} {ifs : List Expr} {scope : Scope} {pos : Pos} {g : TG} {tt : TT} {tk tv : TE} {vs : List Nat} {σ : L2.St} {fin : Hp → Prop} {W : Nat → Nat → Hp → Prop} {R : Result → Shared → Prop}
    (T : Turn Y.prog Y.w Y.K tg J fp it tn) (ex : Y.ex = fp) (pn : Y.pn = []) (calm : Y.calm = true) (quiet : Y.xe = fun _ _ => False) (units : Y.A.units < cLine) (pg : PG Y tg g) (pt : PTs Y ifs tt) (pk : PE Y kx tk) (pe : PE Y vx tv)
    (alt : ∀ i m H, W i m H → (J.stop i H ∧ fin H) ∨ (J.go i H ∧ ∃ N : Hp → Prop, (∀ H2, N H2 → ∃ m2, m2 < m ∧ W (i + 1) m2 H2) ∧ ∀ x H2, J.yld i H x H2 → turnT g tt tk tv vs σ D x H2 N))
    {m0 : Nat} {s : Shared} (start : Mid Y fp (wipe σ vs) tn W m0 s) (leave : ∀ H s2, L2.Inv Y [] (wipe σ vs) H s2 → fin H → R (.ok .next) s2) :
    codeAny (model Y.prog Y.w) Y.A (.compLoop (.DictComp kx vx [⟨tg, iter, ifs, 0⟩] scope pos) 0 (.ref it) (.ref D) Y.env) R s := by
  have calls {e : Expr} {t : TE} (rule : PE Y e t) {pins : List (Addr × Obj)} {σ2 : L2.St} {H : Hp} {s2 : Shared} {Q : VK} (I : L2.Inv Y pins σ2 H s2) (q : t σ2 H Q) := rule.run pins s2 σ2 H Q I q
  rw [quiet] at calls
  have tgt := pg.run
  have tst := pt.run
  rw [quiet] at tgt tst
  refine compLoop_anyD (Mid Y fp (wipe σ vs) tn W) ?_ m0 start
  rintro n s1 ⟨i, H1, I1, st1, out1, w1⟩
  have stay1 := fp_stay ex pn I1 out1
  rcases alt i n H1 w1 with ⟨stop, end_⟩ | ⟨go, N, next, turn⟩
  · refine thnF (T.done Y rfl rfl rfl calm i [] s1 _ H1 _ I1 stay1 st1 stop) fun r s2 ⟨over, I2⟩ => ?_
    subst over
    exact leave H1 s2 I2 end_
  refine thnF (T.item Y rfl rfl rfl calm i [] s1 _ H1 _ I1 stay1 st1 go) fun r s2 ⟨u, more, own⟩ => ?_
  subst more
  refine thnF own fun _ s3 ⟨x, H3, I3, rx, yld, st3, out3⟩ => ?_
  have held := I3.pinned (fp_stay ex pn I3 out3) (T.obj _ _ st3)
  refine thnF (tgt _ s3 _ H3 x u _ held rx (turn x H3 yld)) fun _ s4 ⟨σ4, H4, I4, same, q4⟩ => ?_
  refine thnF (tst _ s4 σ4 H4 _ I4 q4) fun b s5 ⟨H5, I5, q5⟩ => ?_
  cases b with
  | false => exact again T I5 same st3 (next H5 q5)
  | true =>
    refine thnF (calls pk I5 q5) fun _ s6 ⟨y, H6, I6, ry, q6⟩ => ?_
    refine thnF (calls pe I6 q6) fun _ s7 ⟨z, H7, I7, rz, q7⟩ => ?_
    exact put_entry units I7 ry rz q7 fun H8 s8 I8 n8 => again T I8 same st3 (next H8 n8)
abbrev blank : Obj := { cls := .type "dict", data := .dict #[] }
section
variable {X : Cx}
theorem pe_dcT {kx vx tg iter : Expr} {ifs : List Expr} {scope : Scope} {own : List (Str × Nat)} {pos : Pos} {wi : TI} {g : TG} {tt : TT} {tk tv : TE} (units : X.A.units < cLine) (calm : X.calm = true) (alike : X.N.Nodup) (walk : PI X tg iter wi) (ok : BlkOk X.N X.env.scope scope own)
    (target : InBlk X scope fun Y => PG Y tg g) (tests : InBlk X scope fun Y => PTs Y ifs tt) (key : InBlk X scope fun Y => PE Y kx tk) (val : InBlk X scope fun Y => PE Y vx tv) (fold : ∀ x, foldedSetIterable iter X.env x = pure x := by intro _; rfl) :
    PE X (.DictComp kx vx [⟨tg, iter, ifs, 0⟩] scope pos) (tDcT wi g tt tk tv (own.map (·.2))) := by
  refine ⟨fun pins s σ H Q I goal => ?_⟩
  rw [arm_eval_DictComp]
  refine wpAny_comprehension_free rfl fold (closure_ok fun y hy e => I.ok.has _ (ok.free y hy e)) ok.kind (fun y hy e => e ▸ ok.uniq y hy) ?_
  refine thn (walk.run pins s σ H _ I goal) fun _ _ iterates => thn iterates ?_
  rintro _ s2 ⟨it, fp, tn, J, H1, rfl, I1, T, st, away, turns⟩
  refine wpAny_newObj_type (newEnv_comp ?_)
  have free : H1 s2.heap.objs.size = none := I1.hok.fresh (Nat.le_refl _)
  obtain ⟨W, ⟨m0, w0⟩, alt⟩ := turns _ free
  have I2 := I1.laid (t' := s2.toks) (fun b o e => Heap.get?_push_of_some _ e) (Nat.le_refl _) (dt_empty s2.heap I1.big)
  have below {b : Addr} (hb : b ∈ fp) : b < s2.heap.objs.size := have ⟨_, e, _⟩ := T.obj _ _ st b hb; Heap.lt_size e
  have st2 := T.keep 0 _ _ st fun b _ o e => Heap.get?_push_of_some blank e
  have out2 : ∀ b ∈ fp, FpOk X pins (upd H1 s2.heap.objs.size (.dT [])) b ∧ b < (s2.heap.push blank).objs.size := fun b hb =>
    ⟨⟨by rw [upd_ne (Nat.ne_of_lt (below hb))]; exact (away b hb).1, (away b hb).2⟩, by rw [Heap.size_push]; exact Nat.lt_succ_of_lt (below hb)⟩
  have I3 := block_start I2 ok alike out2
  have st3 := T.keep 0 _ _ st2 fun b _ o e => pushCells_keeps scope.names _ _ _ (Heap.get?_push_of_some blank e)
  have within {J : Cx → Prop} (all : InBlk X scope J) := all { s2 with heap := s2.heap.push blank } (upd H1 s2.heap.objs.size (.dT [])) (s2.heap.push blank).objs.size (cellsFrom ((s2.heap.push blank).objs.size + 1) scope.names (cloFrom X.env.cells scope.names [])) fp
  have loop := loop_goes (kx := kx) (vx := vx) (iter := iter) (scope := scope) (pos := pos) (R := compPost (model X.prog X.w) X.A X.xe none (EP X pins σ Q) (.ref s2.heap.objs.size) (s2.heap.push blank).objs.size)
    (Y := X.blk { s2 with heap := s2.heap.push blank } (upd H1 s2.heap.objs.size (.dT [])) scope (compEnvC scope (cellsFrom ((s2.heap.push blank).objs.size + 1) scope.names (cloFrom X.env.cells scope.names [])) (s2.heap.push blank).objs.size X.env) fp)
    T rfl rfl calm rfl units (within target) (within tests) (within key) (within val) alt ⟨0, _, I3, st3, fun b hb => (out2 b hb).1.1, w0⟩ ?_
  · exact codeAny_compStart_dict loop (T.self X.A 0 _ _ _ st3 loop)
  intro H4 s4 I4 end_
  have gone : H4 (s2.heap.push blank).objs.size = none := I4.free
  obtain ⟨m, names, _⟩ := I4.loc
  have ⟨f0, f1, f2, f3, f4, f5⟩ := I2.fpOk (Nat.le_refl _) gone
  have I5 : L2.Inv X pins σ H4 s4 := I2.call' (ch := fp) I4.os I4.base I4.hok I4.bare fun b hb => have ⟨_, g1, _, g3, g4, g5⟩ := (out2 b hb).1; ⟨g3, g1, g4, g5⟩
  exact ⟨m, names, fun h5 but => ⟨.ref s2.heap.objs.size, H4, I5.turned (t' := s4.toks) (fun b o hb e => (but.2 b hb).trans e) f0 f1 f3 f4 f5, rfl, end_⟩⟩
/-- over a list that stays -/
theorem dcT_list {K : PySem.W.Frag} {a : Addr} {xs : List V} {g : TG} {tt : TT} {tk tv : TE} {vs : List Nat} {σ : L2.St} {H1 : Hp} {D : Addr} {fin : Hp → Prop} (Pv : Nat → Hp → Prop) (h0 : Pv 0 (upd H1 D (.dT []))) (stays : ∀ i H, i ≤ xs.length → Pv i H → SqL K H a xs)
    (step : ∀ i x H, xs[i]? = some x → Pv i H → turnT g tt tk tv vs σ D x H (Pv (i + 1))) (last : ∀ H, Pv xs.length H → fin H) : Turns (Itl K a) (upd H1 D (.dT [])) fin (turnT g tt tk tv vs σ D) := by
  refine ⟨fun i m H => i + m = xs.length ∧ Pv i H, ⟨xs.length, Nat.zero_add _, h0⟩, fun i m H ⟨sum, p⟩ => ?_⟩
  have here := stays i H (by omega) p
  cases m with
  | zero =>
    obtain rfl : i = xs.length := sum
    exact .inl ⟨⟨xs, here, Nat.le_refl _⟩, last H p⟩
  | succ m =>
    have less : i < xs.length := by omega
    refine .inr ⟨⟨xs, xs[i], here, List.getElem?_eq_getElem less⟩, Pv (i + 1), fun H2 p2 => ⟨m, Nat.lt_succ_self m, by omega, p2⟩, ?_⟩
    rintro x _ ⟨rfl, item⟩
    exact step i x _ (item xs here) p
end
end Ho
end

section
set_option Elab.async false
set_option linter.all false
set_option maxRecDepth 100000
set_option maxHeartbeats 2000000
/-! K5a: the text by places; the drawing of numbers. -/
namespace Ho
open PySem PySem.Spec PyProof.Rows L2
def top (i : Nat) : Stmt := PySem.Challenge.pw_holdtree_k09_whole_trees_put_together.main.body.getD i (.Pass ⟨0, 0, 0, 0⟩)
abbrev sIsName : Stmt := top 7
abbrev sIsRow : Stmt := top 8
abbrev sIsRoom : Stmt := top 12
abbrev sAreRooms : Stmt := top 13
abbrev sInit : Stmt := inClass (top 14) 0
abbrev sNeed : Stmt := inClass (top 14) 1
abbrev sRooms : Stmt := inClass (top 14) 2
abbrev sInside : Stmt := inClass (top 14) 3
abbrev sBeneath : Stmt := inClass (top 14) 4
abbrev sOver : Stmt := inClass (top 14) 5
abbrev sEnds : Stmt := inClass (top 14) 6
abbrev sBegin : Stmt := top 16
abbrev sMore : Stmt := top 17
abbrev sNext : Stmt := top 18
abbrev sPick : Stmt := top 19
abbrev sWord : Stmt := top 20
abbrev sNames : Stmt := top 21
abbrev sTree : Stmt := top 22
abbrev sTurned : Stmt := top 23
abbrev sDown : Stmt := top 24
abbrev sOneRight : Stmt := top 25
abbrev sLaw : Stmt := top 26
/-- a def of the module: its text, how its arguments bind, the name at the top -/
structure Df (K : PySem.W.Frag) (mg : Str → Option Value) (x : Str) (st : Stmt) (ps : List Str) (f : Addr) (fd : FuncData) : Prop where
  F : Fun K x x st f fd
  b : Binds K fd ps []
  m : mg x = some (.ref f)
/-- names that the module has not -/
structure Bu (mg : Str → Option Value) : Prop where
  len : mg "len" = none
  range : mg "range" = none
  list : mg "list" = none
  tuple : mg "tuple" = none
  set : mg "set" = none
  str : mg "str" = none
  all : mg "all" = none
  sorted : mg "sorted" = none
  isi : mg "isinstance" = none
theorem same_new {H : Hp} {p : Addr} (h : H p = none) (o : HO) : Same H (upd H p o) := fun b u q => by rw [upd_ne (ne_of_none q h)]; exact q
/-! ### the state of the drawing -/
def stv (l : Addr) (k f m : Int) : List (L2.Key × V) := [(Sum.inr "cells", .ref l), (Sum.inr "next", .int k), (Sum.inr "left", .int f), (Sum.inr "mixed", .int m)]
theorem n1 : ¬ (("cells" : Str) = "next") := by decide +kernel
theorem n2 : ¬ (("cells" : Str) = "left") := by decide +kernel
theorem n3 : ¬ (("cells" : Str) = "mixed") := by decide +kernel
theorem n4 : ¬ (("next" : Str) = "left") := by decide +kernel
theorem n5 : ¬ (("next" : Str) = "mixed") := by decide +kernel
theorem n6 : ¬ (("left" : Str) = "mixed") := by decide +kernel
theorem stv_cells (l : Addr) (k f m : Int) : valV (stv l k f m) (Sum.inr "cells") = some (.ref l) := by simp [valV, stv]
theorem stv_next (l : Addr) (k f m : Int) : valV (stv l k f m) (Sum.inr "next") = some (.int k) := by simp [valV, stv, n1]
theorem stv_left (l : Addr) (k f m : Int) : valV (stv l k f m) (Sum.inr "left") = some (.int f) := by simp [valV, stv, n2, n4]
theorem stv_mixed (l : Addr) (k f m : Int) : valV (stv l k f m) (Sum.inr "mixed") = some (.int m) := by simp [valV, stv, n3, n5, n6]
theorem put_next (l : Addr) (k f m j : Int) : putK (stv l k f m) (Sum.inr "next") (.int j) = stv l j f m := by
  simp [putK, valV, stv, n1, n4, n5, Ne.symm n1, Ne.symm n4, Ne.symm n5]
theorem put_left (l : Addr) (k f m j : Int) : putK (stv l k f m) (Sum.inr "left") (.int j) = stv l k j m := by
  simp [putK, valV, stv, n2, n4, n6, Ne.symm n2, Ne.symm n4, Ne.symm n6]
/-- the state stands at st, its numbers in a list at l -/
def St1 (H : Hp) (st l : Addr) (ns : List Int) (k f m : Int) : Prop := H st = some (.dK (stv l k f m)) ∧ H l = some (.lst (ns.map V.int)) ∧ 0 ≤ k ∧ 0 ≤ f
def StAt (H : Hp) (st l : Addr) : Prop := ∃ (ns : List Int) (k f m : Int), St1 H st l ns k f m
/-- all but what stands at st is as it was -/
def But (st : Addr) (H H' : Hp) : Prop := ∀ b o, H b = some o → b ≠ st → H' b = some o
theorem But.refl {st : Addr} (H : Hp) : But st H H := fun _ _ h _ => h
theorem But.trans {st : Addr} {H H1 H2 : Hp} (a : But st H H1) (b : But st H1 H2) : But st H H2 := fun c o h n => b c o (a c o h n) n
theorem But.of {st : Addr} {H H' : Hp} (a : Same H H') : But st H H' := fun c o h _ => a c o h
theorem But.put {st : Addr} {H : Hp} {o : HO} : But st H (upd H st o) := fun c u h n => by rw [upd_ne n]; exact h
theorem St1.ne {H : Hp} {st l : Addr} {ns : List Int} {k f m : Int} (h : St1 H st l ns k f m) : l ≠ st := ne_of h.2.1 h.1 (fun z => nomatch z)
theorem St1.setNext {H : Hp} {st l : Addr} {ns : List Int} {k f m : Int} (h : St1 H st l ns k f m) (j : Int) (hj : 0 ≤ j) : St1 (upd H st (.dK (putK (stv l k f m) (Sum.inr "next") (.int j)))) st l ns j f m :=
  ⟨by rw [upd_same, put_next], by rw [upd_ne h.ne]; exact h.2.1, hj, h.2.2.2⟩
theorem St1.setLeft {H : Hp} {st l : Addr} {ns : List Int} {k f m : Int} (h : St1 H st l ns k f m) (j : Int) (hj : 0 ≤ j) : St1 (upd H st (.dK (putK (stv l k f m) (Sum.inr "left") (.int j)))) st l ns k j m :=
  ⟨by rw [upd_same, put_left], by rw [upd_ne h.ne]; exact h.2.1, h.2.2.1, hj⟩
theorem St1.same {H H' : Hp} {st l : Addr} {ns : List Int} {k f m : Int} (h : St1 H st l ns k f m) (e : Same H H') : St1 H' st l ns k f m := ⟨e _ _ h.1, e _ _ h.2.1, h.2.2⟩
theorem StAt.same {H H' : Hp} {st l : Addr} (h : StAt H st l) (e : Same H H') : StAt H' st l := by
  obtain ⟨ns, k, f, m, h⟩ := h
  exact ⟨ns, k, f, m, h.same e⟩
theorem StAt.new {H : Hp} {st l D : Addr} (h : StAt H st l) (e : H D = none) : D ≠ st ∧ D ≠ l := by
  obtain ⟨ns, k, f, m, h⟩ := h
  exact ⟨(ne_of_none h.1 e).symm, (ne_of_none h.2.1 e).symm⟩
theorem StAt.upd {H : Hp} {st l D : Addr} {o : HO} (h : StAt H st l) (n : D ≠ st ∧ D ≠ l) : StAt (upd H D o) st l := by
  obtain ⟨ns, k, f, m, h⟩ := h
  exact ⟨ns, k, f, m, by rw [upd_ne n.1.symm]; exact h.1, by rw [upd_ne n.2.symm]; exact h.2.1, h.2.2⟩
theorem StAt.tup {H : Hp} {st l b : Addr} {xs : List V} (h : StAt H st l) (e : H b = some (.tup xs)) : b ≠ st := by
  obtain ⟨ns, k, f, m, h⟩ := h
  exact ne_of e h.1 (fun z => nomatch z)
theorem StAt.lst {H : Hp} {st l b : Addr} {xs : List V} (h : StAt H st l) (e : H b = some (.lst xs)) : b ≠ st := by
  obtain ⟨ns, k, f, m, h⟩ := h
  exact ne_of e h.1 (fun z => nomatch z)
theorem stv_len (l : Addr) (k f m : Int) : (stv l k f m).length < sizeLine := by show 4 < sizeLine; decide
/-! ### promises -/
def spBegin (K : PySem.W.Frag) : Sp := fun vs H Q _ => ∃ (a : Addr) (ns : List Int), vs = [.ref a] ∧ SqL K H a (ns.map V.int) ∧ ns.length ≤ 63 ∧ ∀ (st l : Addr) (H' : Hp), StAt H' st l → Same H H' → Q (.ref st) H'
def spMore : Sp := fun vs H Q _ => ∃ (st l : Addr), vs = [.ref st] ∧ StAt H st l ∧ ∀ (v : Int) (H' : Hp), 0 ≤ v → StAt H' st l → But st H H' → Q (.int v) H'
def spNext : Sp := fun vs H Q _ => ∃ (st l : Addr) (many : Int), vs = [.ref st, .int many] ∧ StAt H st l ∧ 0 < many ∧ many < 1000 ∧ ∀ (i : Nat) (H' : Hp), (i : Int) < many → StAt H' st l → But st H H' → Q (.int (i : Int)) H'
def spPick (K : PySem.W.Frag) : Sp := fun vs H Q _ => ∃ (st l b : Addr) (xs : List V), vs = [.ref st, .ref b] ∧ StAt H st l ∧ H b = some (.lst xs) ∧ 0 < xs.length ∧ xs.length < 1000 ∧ ∀ (i : Nat) (x : V) (H' : Hp), xs[i]? = some x → StAt H' st l → But st H H' → Q x H'
section
variable {P : Program} {w : World} {K : PySem.W.Frag} {mg : Str → Option Value} {base : Heap}
theorem scBegin : FnScope ["_law_script", "_law_mixed", "_law_cell"] ["_law_script"] (defScope sBegin) := ⟨rfl, rfl, rfl, by decide +kernel, rfl, by decide +kernel, by decide +kernel⟩
theorem scMore : FnScope ["_law_state", "_law_k", "_law_cell", "_law_one", "_law_two", "_law_three"] ["_law_state"] (defScope sMore) := ⟨rfl, rfl, rfl, by decide +kernel, rfl, by decide +kernel, by decide +kernel⟩
theorem scNext : FnScope ["_law_state", "_law_many", "_law_found"] ["_law_state", "_law_many"] (defScope sNext) := ⟨rfl, rfl, rfl, by decide +kernel, rfl, by decide +kernel, by decide +kernel⟩
theorem scPick : FnScope ["_law_state", "_law_some"] ["_law_state", "_law_some"] (defScope sPick) := ⟨rfl, rfl, rfl, by decide +kernel, rfl, by decide +kernel, by decide +kernel⟩

theorem ok_begin {f : Addr} {fd : FuncData} (D : Df K mg "_law_begin" sBegin ["_law_script"] f fd) (B : Bu mg) : FnOk P w K mg base CX0 1 f fd ["_law_script"] (spBegin K) := by
  refine D.F.ok scBegin (fun vs H Q E h => ?_) (fun cdv A outer s H vs Q E hr h => ?_)
  · obtain ⟨a, ns, rfl, _⟩ := h
    rfl
  obtain ⟨a, ns, rfl, hS, h63, q⟩ := h
  have nd := scBegin.nd
  refine ⟨_, pss_cons (ps_set (i := 1) nd rfl (Or.inl rfl) pe_int)
    (pss_cons (ps_for PassesOwn.never rfl (pi_list (pv 0)) (pg_name (i := 2) nd rfl (Or.inl rfl))
      (pss_one (ps_set (i := 1) nd rfl (Or.inl rfl) (pe_op op_mod (pe_op op_add (pe_op op_mul (pv 1) pe_int) (pv 2)) pe_int))))
    (pss_one (ps_ret (pe_disp (pps_cons pe_str (pe_callTy call_list_of (by rfl) B.list (by decide +kernel) (pa_cons (pv 0) pa_nil)) (pps_cons pe_str pe_int (pps_cons pe_str pe_int (pps_cons pe_str (pv 1) pps_nil)))) (by rfl) (by rfl) (fun z => by cases z) (by decide))))), ?_⟩
  refine ⟨_, rfl, a, rfl, ⟨_, hS⟩, for_list (K := K) (a := a) (xs := ns.map V.int) (fun i σ H2 => ∃ (m : Int) (v : Option V), σ = [some (.ref a), some (.int m), v] ∧ H2 = H) ⟨11, none, rfl, rfl⟩ (fun i σ H2 _ ⟨_, _, _, e⟩ => by rw [e]; exact hS) ?_ ?_⟩
  · rintro i y σ H2 hi ⟨m, v, rfl, rfl⟩
    obtain ⟨z, rfl⟩ : ∃ z, y = V.int z := by
      rw [List.getElem?_map] at hi
      cases e : ns[i]? with
      | none => rw [e] at hi; cases hi
      | some z => rw [e] at hi; exact ⟨z, (Option.some.inj hi).symm⟩
    refine ⟨_, rfl, _, _, rfl, rfl, .inr ⟨by decide, by decide⟩, _, rfl, _, _, rfl, rfl, _, _, rfl, rfl, (by show (0 : Int) < 2147483629; decide), ?_⟩
    exact ⟨_, _, rfl, rfl⟩
  · rintro σ H2 ⟨m, v, rfl, rfl⟩
    intro p hp
    refine ⟨_, rfl, a, _, rfl, .inl ((same_new hp _).seq hS), fun l hl => ⟨_, rfl, ?_⟩⟩
    have npl : p ≠ l := fun e => by rw [← e, upd_same] at hl; cases hl
    refine ⟨by rw [upd_ne npl]; exact upd_same, stv l 0 0 m, rfl, by show 4 ≤ 15; decide, ?_⟩
    have hm : mergeK [] (stv l 0 0 m) = stv l 0 0 m := by
      simp [mergeK, stv, putK, valV, n1, n2, n3, n4, n5, n6]
    rw [hm]
    have hl0 : H2 l = none := by rw [upd_ne npl.symm] at hl; exact hl
    refine q p l _ ⟨ns, 0, 0, m, upd_same, by rw [upd_ne npl.symm]; exact upd_same, Int.le_refl 0, Int.le_refl 0⟩ fun b o e => ?_
    rw [upd_ne (ne_of_none e hp), upd_ne (ne_of_none e hl0), upd_ne (ne_of_none e hp)]
    exact e
theorem w64 {c : Int} (h0 : 0 < c) (h1 : c < 2 ^ 64) (x : Int) : -(2 ^ 64) < x % c ∧ x % c < 2 ^ 64 := by
  have a := Int.emod_nonneg x (show c ≠ 0 by omega)
  have b := Int.emod_lt_of_pos x h0
  omega
theorem fin3 (x y z : Int) : 0 ≤ ((x % 2147483647) * 2147483629 + y % 2147483629) * 2147483587 + z % 2147483587 := by
  have a := Int.emod_nonneg x (show (2147483647 : Int) ≠ 0 by decide)
  have b := Int.emod_nonneg y (show (2147483629 : Int) ≠ 0 by decide)
  have c := Int.emod_nonneg z (show (2147483587 : Int) ≠ 0 by decide)
  omega
theorem ok_more {f : Addr} {fd : FuncData} (D : Df K mg "_law_more" sMore ["_law_state"] f fd) (B : Bu mg) : FnOk P w K mg base CX0 1 f fd ["_law_state"] spMore := by
  refine D.F.ok scMore (fun vs H Q E h => ?_) (fun cdv A outer s H vs Q E hr h => ?_)
  · obtain ⟨st, l, rfl, _⟩ := h
    rfl
  obtain ⟨st, l, rfl, ⟨ns, k, f, m, h⟩, q⟩ := h
  have nd := scMore.nd
  have hu := hu_of hr
  refine ⟨_, pss_cons (ps_set (i := 1) nd rfl (Or.inl rfl) (pe_dget hu (pv 0) pe_str (fun _ _ => rfl)))
    (pss_cons (ps_dput hu (pv 0) pe_str (pe_op op_add (pv 1) pe_int) rfl)
    (pss_cons (ps_set (i := 2) nd rfl (Or.inl rfl) (pe_op op_add (pe_dget hu (pv 0) pe_str (fun _ _ => rfl)) (pe_op op_mul pe_int (pv 1))))
    (pss_cons (ps_if (pt_cmpR op_lt (pv 1) (pe_callB call_len_seq (by rfl) B.len PySem.boot_len (pa_cons (pe_dget hu (pv 0) pe_str (fun _ _ => rfl)) pa_nil)) (nomark _)) (pss_one (ps_set (i := 2) nd rfl (Or.inl rfl) (pe_ix ix_list (pe_dget hu (pv 0) pe_str (fun _ _ => rfl)) (pv 1) (fun _ _ => rfl)))) pss_nil)
    (pss_cons (ps_if (pt_cmpR op_ge (pv 2) (pe_op op_pow pe_int pe_int) (nomark _)) (pss_one (ps_ret (pe_op op_sub (pv 2) (pe_op op_pow pe_int pe_int)))) pss_nil)
    (pss_cons (ps_set (i := 3) nd rfl (Or.inl rfl) (pe_op op_mod (pe_op op_add (pe_op op_add (pe_op op_mul (pv 2) pe_int) (pe_op op_mul pe_int (pv 1))) pe_int) pe_int))
    (pss_cons (ps_set (i := 4) nd rfl (Or.inl rfl) (pe_op op_mod (pe_op op_mul (pv 3) (pe_op op_add (pe_op op_add (pv 3) (pe_op op_mul pe_int (pv 1))) pe_int)) pe_int))
    (pss_cons (ps_set (i := 5) nd rfl (Or.inl rfl) (pe_op op_mod (pe_op op_mul (pv 4) (pe_op op_add (pe_op op_add (pv 4) (pv 3)) pe_int)) pe_int))
    (pss_one (ps_ret (pe_op op_add (pe_op op_mul (pe_op op_add (pe_op op_mul (pv 3) pe_int) (pv 4)) pe_int) (pv 5)))))))))))
    , ?_⟩
  refine ⟨_, rfl, st, _, rfl, stv_next l k f m ▸ DGet.k (k := Sum.inr "next") h.1, ?_⟩
  refine ⟨_, rfl, _, _, rfl, rfl, _, rfl, st, _, rfl, DPut.k (k := Sum.inr "next") h.1 (stv_len _ _ _ _), ?_⟩
  have h' := h.setNext (k + 1) (by have := h.2.2.1; omega)
  have b1 : But st H (upd H st (.dK (putK (stv l k f m) (Sum.inr "next") (.int (k + 1))))) := But.put
  generalize upd H st (.dK (putK (stv l k f m) (Sum.inr "next") (.int (k + 1)))) = H1 at h' b1 ⊢
  refine ⟨_, rfl, st, _, rfl, stv_mixed l (k + 1) f m ▸ DGet.k (k := Sum.inr "mixed") h'.1, _, rfl, _, _, rfl, rfl, .inl ⟨by decide, by decide⟩, _, _, rfl, rfl, ?_⟩
  refine ⟨_, rfl, _, rfl, st, _, rfl, stv_cells l (k + 1) f m ▸ DGet.k (k := Sum.inr "cells") h'.1, l, _, rfl, .inl (SqL.of h'.2.1), _, _, rfl, rfl, _, rfl, ?_⟩
  refine ite2 (fun c => ?_) (fun c => ?_)
  · have c' : k < (((ns.map V.int).length : Nat) : Int) := of_decide_eq_true c
    have hk : k.toNat < ns.length := by rw [List.length_map] at c'; have := h.2.2.1; omega
    refine ⟨_, rfl, st, _, rfl, stv_cells l (k + 1) f m ▸ DGet.k (k := Sum.inr "cells") h'.1, _, rfl, l, _, k, _, rfl, rfl, SqL.of h'.2.1, at_of (j := k.toNat) (v := V.int ns[k.toNat]) (by have := h.2.2.1; omega) (by rw [List.getElem?_map, List.getElem?_eq_getElem hk] <;> rfl), ?_⟩
    refine ⟨_, rfl, _, _, rfl, rfl, ⟨by decide, by decide, by decide⟩, _, _, rfl, rfl, _, rfl, ite2 (fun c2 => ?_) (fun c2 => ?_)⟩
    · have c3 := of_decide_eq_true c2
      refine ⟨_, rfl, _, _, rfl, rfl, ⟨by decide, by decide, by decide⟩, _, _, rfl, rfl, ?_⟩
      exact q _ _ (by omega) ⟨ns, _, _, m, h'⟩ b1
    · refine ⟨_, rfl, _, _, rfl, rfl, .inr ⟨by decide, by decide⟩, _, rfl, _, _, rfl, rfl, .inl ⟨by decide, by decide⟩, _, _, rfl, rfl, _, _, rfl, rfl, _, _, rfl, rfl, (by show (0 : Int) < 2147483647; decide), ?_⟩
      refine ⟨_, rfl, _, rfl, _, rfl, _, _, rfl, rfl, .inl ⟨by decide, by decide⟩, _, _, rfl, rfl, _, _, rfl, rfl, _, _, rfl, rfl, .inl (w64 (c := 2147483647) (by decide) (by decide) _), _, _, rfl, rfl, (by show (0 : Int) < 2147483629; decide), ?_⟩
      refine ⟨_, rfl, _, rfl, _, rfl, _, _, rfl, rfl, _, _, rfl, rfl, _, _, rfl, rfl, .inl (w64 (c := 2147483629) (by decide) (by decide) _), _, _, rfl, rfl, (by show (0 : Int) < 2147483587; decide), ?_⟩
      refine ⟨_, rfl, _, _, rfl, rfl, .inl (w64 (c := 2147483647) (by decide) (by decide) _), _, rfl, _, _, rfl, rfl, _, _, rfl, rfl, .inr ⟨by decide, by decide⟩, _, rfl, _, _, rfl, rfl, ?_⟩
      exact q _ _ (fin3 _ _ _) ⟨ns, _, _, m, h'⟩ b1
  · refine ⟨_, rfl, _, _, rfl, rfl, ⟨by decide, by decide, by decide⟩, _, _, rfl, rfl, _, rfl, ite2 (fun c2 => ?_) (fun c2 => ?_)⟩
    · have c3 := of_decide_eq_true c2
      refine ⟨_, rfl, _, _, rfl, rfl, ⟨by decide, by decide, by decide⟩, _, _, rfl, rfl, ?_⟩
      exact q _ _ (by omega) ⟨ns, _, _, m, h'⟩ b1
    · refine ⟨_, rfl, _, _, rfl, rfl, .inr ⟨by decide, by decide⟩, _, rfl, _, _, rfl, rfl, .inl ⟨by decide, by decide⟩, _, _, rfl, rfl, _, _, rfl, rfl, _, _, rfl, rfl, (by show (0 : Int) < 2147483647; decide), ?_⟩
      refine ⟨_, rfl, _, rfl, _, rfl, _, _, rfl, rfl, .inl ⟨by decide, by decide⟩, _, _, rfl, rfl, _, _, rfl, rfl, _, _, rfl, rfl, .inl (w64 (c := 2147483647) (by decide) (by decide) _), _, _, rfl, rfl, (by show (0 : Int) < 2147483629; decide), ?_⟩
      refine ⟨_, rfl, _, rfl, _, rfl, _, _, rfl, rfl, _, _, rfl, rfl, _, _, rfl, rfl, .inl (w64 (c := 2147483629) (by decide) (by decide) _), _, _, rfl, rfl, (by show (0 : Int) < 2147483587; decide), ?_⟩
      refine ⟨_, rfl, _, _, rfl, rfl, .inl (w64 (c := 2147483647) (by decide) (by decide) _), _, rfl, _, _, rfl, rfl, _, _, rfl, rfl, .inr ⟨by decide, by decide⟩, _, rfl, _, _, rfl, rfl, ?_⟩
      exact q _ _ (fin3 _ _ _) ⟨ns, _, _, m, h'⟩ b1
theorem ok_next {f g : Addr} {fd gd : FuncData} (D : Df K mg "_law_next" sNext ["_law_state", "_law_many"] f fd) (DM : Df K mg "_law_more" sMore ["_law_state"] g gd) (B : Bu mg) : FnOk P w K mg base CX0 2 f fd ["_law_state", "_law_many"] spNext := by
  have G : FnOk P w K mg base CX0 1 g gd ["_law_state"] spMore := ok_more DM B
  refine D.F.ok scNext (fun vs H Q E h => ?_) (fun cdv A outer s H vs Q E hr h => ?_)
  · obtain ⟨st, l, many, rfl, _⟩ := h
    rfl
  obtain ⟨st, l, many, rfl, ⟨ns, k, f, m, h⟩, hm0, hm1, q⟩ := h
  have nd := scNext.nd
  have hu := hu_of hr
  refine ⟨_, pss_cons (ps_if (pt_cmpR op_eq (pe_dget hu (pv 0) pe_str (fun _ _ => rfl)) pe_int (nomark _)) (pss_one (ps_dput hu (pv 0) pe_str (pe_call G hr rfl DM.m DM.F.kp DM.b .nil pass0 (pa_cons (pv 0) pa_nil)) rfl)) pss_nil)
    (pss_cons (ps_set (i := 2) nd rfl (Or.inl rfl) (pe_op op_mod (pe_dget hu (pv 0) pe_str (fun _ _ => rfl)) (pv 1)))
    (pss_cons (ps_dput hu (pv 0) pe_str (pe_op op_fdiv (pe_dget hu (pv 0) pe_str (fun _ _ => rfl)) (pv 1)) rfl)
    (pss_one (ps_ret (pv 2))))), ?_⟩
  refine ⟨_, rfl, st, _, rfl, stv_left l k f m ▸ DGet.k (k := Sum.inr "left") h.1, rfl, _, rfl, ?_⟩
  refine ite2 (fun c => ?_) (fun c => ?_)
  · refine ⟨_, rfl, st, l, rfl, ⟨ns, k, f, m, h⟩, fun v H1 hv hS1 b1 => ?_⟩
    obtain ⟨ns, k, f, m, h⟩ := hS1
    refine ⟨_, rfl, st, _, rfl, DPut.k (k := Sum.inr "left") h.1 (stv_len _ _ _ _), ?_⟩
    have h' := h.setLeft v hv
    have b2 := b1.trans (But.put (o := .dK (putK (stv l k f m) (Sum.inr "left") (.int v))))
    generalize upd H1 st (.dK (putK (stv l k f m) (Sum.inr "left") (.int v))) = H2 at h' b2 ⊢
    refine ⟨_, rfl, st, _, rfl, stv_left _ _ _ _ ▸ DGet.k (k := Sum.inr "left") h'.1, _, rfl, _, _, rfl, rfl, hm0, ?_⟩
    refine ⟨_, rfl, st, _, rfl, stv_left _ _ _ _ ▸ DGet.k (k := Sum.inr "left") h'.1, _, rfl, _, _, rfl, rfl, ⟨hm0, by omega⟩, _, rfl, st, _, rfl, DPut.k (k := Sum.inr "left") h'.1 (stv_len _ _ _ _), _, rfl, ?_⟩
    have z1 := Int.emod_nonneg (v) (show many ≠ 0 by omega)
    have z2 := Int.emod_lt_of_pos (v) hm0
    have z3 := q (v % many).toNat _ (by omega) ⟨_, _, _, _, h'.setLeft (v / many) (Int.ediv_nonneg h'.2.2.2 (by omega))⟩ (b2.trans But.put)
    rw [Int.toNat_of_nonneg z1] at z3
    exact z3
  · have h' := h
    have b2 := But.refl (st := st) H
    refine ⟨_, rfl, st, _, rfl, stv_left _ _ _ _ ▸ DGet.k (k := Sum.inr "left") h'.1, _, rfl, _, _, rfl, rfl, hm0, ?_⟩
    refine ⟨_, rfl, st, _, rfl, stv_left _ _ _ _ ▸ DGet.k (k := Sum.inr "left") h'.1, _, rfl, _, _, rfl, rfl, ⟨hm0, by omega⟩, _, rfl, st, _, rfl, DPut.k (k := Sum.inr "left") h'.1 (stv_len _ _ _ _), _, rfl, ?_⟩
    have z1 := Int.emod_nonneg (f) (show many ≠ 0 by omega)
    have z2 := Int.emod_lt_of_pos (f) hm0
    have z3 := q (f % many).toNat _ (by omega) ⟨_, _, _, _, h'.setLeft (f / many) (Int.ediv_nonneg h'.2.2.2 (by omega))⟩ (b2.trans But.put)
    rw [Int.toNat_of_nonneg z1] at z3
    exact z3
end
end Ho
end

section
set_option Elab.async false
set_option linter.all false
set_option maxRecDepth 100000
set_option maxHeartbeats 2000000
/-! K5b: picks and words. -/
namespace Ho
open PySem PySem.Spec PyProof.Rows L2
def abc : Str := "abcdefghijklmnopqrstuvwxyz"
/-- a word of one to eight small letters -/
def nameOk (z : Str) : Bool := decide (1 ≤ z.length) && decide (z.length ≤ 8) && z.cps.toList.all fun c => decide (c ∈ abc.cps.toList)
theorem nameOk_iff {z : Str} : nameOk z = true ↔ 1 ≤ z.length ∧ z.length ≤ 8 ∧ ∀ c ∈ z.cps.toList, c ∈ abc.cps.toList := by
  unfold nameOk
  rw [Bool.and_eq_true, Bool.and_eq_true, decide_eq_true_eq, decide_eq_true_eq, List.all_eq_true, and_assoc]
  simp only [decide_eq_true_eq]
theorem pick_all {l : List Str} {i : Nat} {x : V} (h : l.all nameOk = true) (hx : (l.map V.str)[i]? = some x) : ∃ z, x = .str z ∧ nameOk z = true := by
  rw [List.getElem?_map] at hx
  cases e : l[i]? with
  | none => rw [e] at hx; cases hx
  | some z =>
    rw [e] at hx
    exact ⟨z, (Option.some.inj hx).symm, List.all_eq_true.mp h z (List.mem_of_getElem? e)⟩
theorem joinL_signs : ∀ cs : List Nat, TL.joinL [] (cs.map fun c => [c]) = cs
  | [] => rfl
  | [_] => rfl
  | c :: d :: r => congrArg (c :: ·) (joinL_signs (d :: r))
theorem joined_signs (cs : List Nat) : (Txt.join Str.empty (cs.map fun c => (⟨#[c]⟩ : Str))).cps.toList = cs := by
  rw [TL.join_eq]
  show TL.tl _ = cs
  rw [TL.tl_join, List.map_map]
  exact joinL_signs cs
def spPickS (x : Str) : Sp := fun vs H Q _ => ∃ (st l : Addr), vs = [.ref st, .str x] ∧ StAt H st l ∧ 0 < x.length ∧ x.length < 1000 ∧ ∀ (c : Nat) (H' : Hp), c ∈ x.cps.toList → StAt H' st l → But st H H' → Q (.str ⟨#[c]⟩) H'
def spWord : Sp := fun vs H Q _ => ∃ (st l : Addr), vs = [.ref st] ∧ StAt H st l ∧ ∀ (z : Str) (H' : Hp), nameOk z = true → StAt H' st l → But st H H' → Q (.str z) H'
/-- a list is being made at D -/
def ButD (st D : Addr) (H H' : Hp) : Prop := ∀ b o, H b = some o → b ≠ st → b ≠ D → H' b = some o
theorem ButD.of {st D : Addr} {H : Hp} {o : HO} (h : H D = none) : ButD st D H (upd H D o) := fun b u e _ n => by rw [upd_ne n]; exact e
theorem ButD.step {st D : Addr} {H H1 H2 : Hp} {o : HO} (a : ButD st D H H1) (b : But st H1 H2) (n : D ≠ st) : ButD st D H (upd H2 D o) := fun c u e n1 n2 => by
  rw [upd_ne n2]
  exact b c u (a c u e n1 n2) n1
theorem ButD.but {st D : Addr} {H H' : Hp} (a : ButD st D H H') (h : H D = none) : But st H H' := fun c u e n1 => a c u e n1 (ne_of_none e h)
section
variable {P : Program} {w : World} {K : PySem.W.Frag} {mg : Str → Option Value} {base : Heap}
theorem ok_pick {f g : Addr} {fd gd : FuncData} (D : Df K mg "_law_pick" sPick ["_law_state", "_law_some"] f fd) (DN : Df K mg "_law_next" sNext ["_law_state", "_law_many"] g gd) (GN : FnOk P w K mg base CX0 2 g gd ["_law_state", "_law_many"] spNext) (B : Bu mg) : FnOk P w K mg base CX0 3 f fd ["_law_state", "_law_some"] (spPick K) := by
  refine D.F.ok scPick (fun vs H Q E h => ?_) (fun cdv A outer s H vs Q E hr h => ?_)
  · obtain ⟨st, l, b, xs, rfl, _⟩ := h
    rfl
  obtain ⟨st, l, b, xs, rfl, hS, hb, h0, h1, q⟩ := h
  refine ⟨_, pss_one (ps_ret (pe_ix ix_list (pv 1) (pe_call GN hr rfl DN.m DN.F.kp DN.b .nil pass0 (pa_cons (pv 0) (pa_cons (pe_callB call_len_seq (by rfl) B.len PySem.boot_len (pa_cons (pv 1) pa_nil)) pa_nil))) (fun _ _ => rfl))), ?_⟩
  have nb : b ≠ st := hS.lst hb
  refine ⟨_, rfl, _, rfl, _, rfl, b, _, rfl, .inl (SqL.of hb), st, l, _, rfl, hS, by omega, by omega, fun i H' hi hS' hB => ?_⟩
  have hi' : i < xs.length := by omega
  have e := List.getElem?_eq_getElem hi'
  exact ⟨b, xs, _, _, rfl, rfl, SqL.of (hB b _ hb nb), atI_nat e, q i _ H' e hS' hB⟩
theorem ok_pickS (x : Str) {f g : Addr} {fd gd : FuncData} (D : Df K mg "_law_pick" sPick ["_law_state", "_law_some"] f fd) (DN : Df K mg "_law_next" sNext ["_law_state", "_law_many"] g gd) (GN : FnOk P w K mg base CX0 2 g gd ["_law_state", "_law_many"] spNext) (B : Bu mg) : FnOk P w K mg base CX0 3 f fd ["_law_state", "_law_some"] (spPickS x) := by
  refine D.F.ok scPick (fun vs H Q E h => ?_) (fun cdv A outer s H vs Q E hr h => ?_)
  · obtain ⟨st, l, rfl, _⟩ := h
    rfl
  obtain ⟨st, l, rfl, hS, h0, h1, q⟩ := h
  have hz : x.length ≤ sizeLine := Nat.le_of_lt (small1000 (by omega))
  refine ⟨_, pss_one (ps_ret (pe_ix ix_str (pv 1) (pe_call GN hr rfl DN.m DN.F.kp DN.b .nil pass0 (pa_cons (pv 0) (pa_cons (pe_callB call_len_str (by rfl) B.len PySem.boot_len (pa_cons (pv 1) pa_nil)) pa_nil))) (fun _ _ => rfl))), ?_⟩
  refine ⟨_, rfl, _, rfl, _, rfl, x, rfl, hz, st, l, _, rfl, hS, by omega, by omega, fun i H' hi hS' hB => ?_⟩
  have hi' : i < x.cps.toList.length := by
    have e : x.length = x.cps.size := rfl
    rw [Array.length_toList]
    omega
  have e := List.getElem?_eq_getElem hi'
  exact ⟨x, _, _, rfl, rfl, hz, atI_nat e, q _ H' (List.mem_of_getElem? e) hS' hB⟩
theorem scWord : FnScope ["_law_state", "_law_letters", "_law_own", "_law_size", "_law_k"] ["_law_state"] (defScope sWord) := ⟨rfl, rfl, rfl, by decide +kernel, rfl, by decide +kernel, by decide +kernel⟩
theorem ok_word {f g n : Addr} {fd gd nd' : FuncData} (D : Df K mg "_law_word" sWord ["_law_state"] f fd) (DP : Df K mg "_law_pick" sPick ["_law_state", "_law_some"] g gd) (DN : Df K mg "_law_next" sNext ["_law_state", "_law_many"] n nd')
    (GN : FnOk P w K mg base CX0 2 n nd' ["_law_state", "_law_many"] spNext) (B : Bu mg) : FnOk P w K mg base CX0 4 f fd ["_law_state"] spWord := by
  have GP : FnOk P w K mg base CX0 3 g gd ["_law_state", "_law_some"] (spPick K) := ok_pick DP DN GN B
  have GS : FnOk P w K mg base CX0 3 g gd ["_law_state", "_law_some"] (spPickS abc) := ok_pickS abc DP DN GN B
  refine D.F.ok scWord (fun vs H Q E h => ?_) (fun cdv A outer s H vs Q E hr h => ?_)
  · obtain ⟨st, l, rfl, _⟩ := h
    rfl
  obtain ⟨st, l, rfl, hS, q⟩ := h
  have nd := scWord.nd
  have hr2 : Room 2 _ := hr.mono (by decide)
  refine ⟨_, pss_cons (ps_set (i := 1) nd rfl (Or.inr rfl) pe_str) (pss_cons (ps_set (i := 2) nd rfl (Or.inl rfl) pe_str)
    (pss_cons (ps_if (pt_cmpR op_eq (pe_call GN hr2 rfl DN.m DN.F.kp DN.b .nil pass0 (pa_cons (pv 0) (pa_cons pe_int pa_nil))) pe_int (nomark _)) (pss_one (ps_ret (pe_call GP hr rfl DP.m DP.F.kp DP.b .nil pass0 (pa_cons (pv 0) (pa_cons (pe_split (pv 2) pe_str) pa_nil))))) pss_nil)
    (pss_cons (ps_set (i := 3) nd rfl (Or.inl rfl) (pe_ix ix_list (pe_lst (pa_cons pe_int (pa_cons pe_int (pa_cons pe_int (pa_cons pe_int (pa_cons pe_int (pa_cons pe_int pa_nil))))))) (pe_call GN hr2 rfl DN.m DN.F.kp DN.b .nil pass0 (pa_cons (pv 0) (pa_cons pe_int pa_nil))) (fun _ _ => rfl)))
    (pss_one (ps_ret (pe_join pe_str (pe_lc (own := [("_law_k", 4)]) (g := gName 4) (tt := tYes) rfl nd (pi_range1 rfl B.range (pa_cons (pv 3) pa_nil)) (blkOk_by (own := [("_law_k", 4)]) (N := ["_law_state", "_law_letters", "_law_own", "_law_size", "_law_k"]) (sc := defScope sWord) (by decide +kernel))
      (fun _ _ _ _ _ => pg_name (i := 4) nd rfl (Or.inl rfl)) (fun _ _ _ _ _ => pts_nil) (fun _ _ _ _ _ => pe_call GS hr rfl DP.m DP.F.kp DP.b .nil pass0 (pa_cons (pv 0) (pa_cons (pv 1) pa_nil)))))))))), ?_⟩
  refine ⟨_, rfl, st, l, _, rfl, hS, by decide, by decide, fun i H1 hi hS1 b1 => ⟨rfl, _, rfl, ite2 (fun c => ?_) (fun c => ?_)⟩⟩
  · refine ⟨_, rfl, _, rfl, ⟨_, rfl⟩, _, _, rfl, rfl, by decide +kernel, by decide +kernel, fun p hp => ⟨st, l, p, _, rfl, hS1.same (same_new hp _), upd_same, by decide +kernel, by decide +kernel, fun i x H2 hx hS2 b2 => ?_⟩⟩
    obtain ⟨z, rfl, hz⟩ := pick_all (by decide +kernel) hx
    exact q z H2 hz hS2 ((b1.trans (But.of (same_new hp _))).trans b2)
  · refine ⟨by show 6 ≤ sizeLine; decide, fun e hl => ⟨_, rfl, st, l, _, rfl, hS1.same (same_new hl _), by decide, by decide, fun j H2 hj hS2 b2 => ?_⟩⟩
    have nl : e ≠ st := (hS1.new hl).1
    have hj' : j < 6 := by omega
    have hl2 := b2 e _ upd_same nl
    have two : ∃ k : Nat, ([V.int 1, V.int 1, V.int 2, V.int 3, V.int 5, V.int 8] : List V)[j]? = some (.int (k : Int)) ∧ 1 ≤ k ∧ k ≤ 8 := by
      match j, hj' with
      | 0, _ => exact ⟨1, rfl, by decide, by decide⟩
      | 1, _ => exact ⟨1, rfl, by decide, by decide⟩
      | 2, _ => exact ⟨2, rfl, by decide, by decide⟩
      | 3, _ => exact ⟨3, rfl, by decide, by decide⟩
      | 4, _ => exact ⟨5, rfl, by decide, by decide⟩
      | 5, _ => exact ⟨8, rfl, by decide, by decide⟩
    obtain ⟨k, hk, hk1, hk8⟩ := two
    have b3 := (b1.trans (But.of (same_new hl (.lst [V.int 1, V.int 1, V.int 2, V.int 3, V.int 5, V.int 8])))).trans b2
    refine ⟨e, _, _, _, rfl, rfl, SqL.of hl2, atI_nat hk, ⟨_, rfl⟩, _, rfl, k, rfl, by omega, by omega, fun D hD => ?_⟩
    have nD := hS2.new hD
    refine lc_range (lo := 0) (n := k) (fun i H' => ∃ cs : List Nat, cs.length = i ∧ (∀ c ∈ cs, c ∈ abc.cps.toList) ∧ H' D = some (.lst (cs.map fun c => V.str ⟨#[c]⟩)) ∧ StAt H' st l ∧ ButD st D H2 H') ?_ ?_ ?_
    · exact ⟨[], rfl, (fun c hc => nomatch hc), upd_same, hS2.same (same_new hD _), ButD.of hD⟩
    · rintro i H3 hi ⟨cs, hlen, hcs, hD3, hS3, b4⟩
      refine ⟨rfl, _, rfl, _, rfl, st, l, rfl, hS3, by decide +kernel, by decide +kernel, fun c H4 hc hS4 b5 => ?_⟩
      have hD4 := b5 D _ hD3 nD.1
      refine ⟨_, hD4, small1000 (by rw [List.length_map]; omega), cs ++ [c], by rw [List.length_append, hlen] <;> rfl, fun d hd => ?_, ?_, ?_, ?_⟩
      · rcases List.mem_append.mp hd with hd | hd
        · exact hcs d hd
        · rw [List.mem_singleton.mp hd]
          exact hc
      · rw [upd_same, List.map_append] <;> rfl
      · exact hS4.upd nD
      · exact b4.step b5 nD.1
    · rintro H3 ⟨cs, hlen, hcs, hD3, hS3, b4⟩
      have e2 : (cs.map fun c => V.str (⟨#[c]⟩ : Str)) = (cs.map fun c => (⟨#[c]⟩ : Str)).map V.str := by rw [List.map_map] <;> rfl
      refine ⟨_, D, cs.map fun c => (⟨#[c]⟩ : Str), rfl, rfl, .inl (SqL.of (by rw [← e2]; exact hD3)), ?_, ?_⟩
      · rw [List.map_map]
        have e3 : ∀ cs : List Nat, (cs.map ((fun x : Str => x.length) ∘ fun c => (⟨#[c]⟩ : Str))).sum = cs.length := by
          intro cs
          induction cs with
          | nil => rfl
          | cons c r ih =>
            rw [List.map_cons, List.sum_cons, ih, List.length_cons]
            show 1 + r.length = r.length + 1
            omega
        rw [e3, List.length_map]
        show cs.length + cs.length * 0 ≤ 16777216
        omega
      · have e4 := joined_signs cs
        refine q _ H3 (nameOk_iff.mpr ⟨?_, ?_, fun c hc => hcs c (by rw [← e4]; exact hc)⟩) hS3 (b3.trans (b4.but hD))
        · show 1 ≤ (Txt.join Str.empty _).cps.size
          rw [← Array.length_toList, e4]
          omega
        · show (Txt.join Str.empty _).cps.size ≤ 8
          rw [← Array.length_toList, e4]
          omega
end
end Ho
end

section
set_option Elab.async false
set_option linter.all false
set_option maxRecDepth 100000
set_option maxHeartbeats 2000000
/-! K5c: names. -/
namespace Ho
open PySem PySem.Spec PyProof.Rows L2
def head7 (z : Str) : Str := cutS z none (some 7)
def cand (z : Str) (c : Nat) : Str := head7 z ++ ⟨#[c]⟩
def cands (z : Str) : List Str := abc.cps.toList.map (cand z)
theorem cand_list (z : Str) (c : Nat) : (cand z c).cps.toList = (head7 z).cps.toList ++ [c] := by
  show TL.tl (head7 z ++ (⟨#[c]⟩ : Str)) = _
  rw [TL.tl_append] <;> rfl
theorem head7_list (z : Str) : (head7 z).cps.toList = z.cps.toList.take 7 := by
  have e : z.cps.toList.length = z.length := Array.length_toList
  show ((z.cps.toList.drop (HT.sIx z.length 0 none)).take (HT.sIx z.length z.length (some ((7 : Nat) : Int)) - HT.sIx z.length 0 none)) = _
  rw [HT.sIx_nat, HT.sIx_none, List.drop_zero, Nat.sub_zero]
  by_cases h : 7 ≤ z.length
  · rw [Nat.min_eq_left h]
  · rw [Nat.min_eq_right (by omega), List.take_of_length_le (by omega), List.take_of_length_le (by omega)]
theorem cand_ok {z : Str} (h : nameOk z = true) {c : Nat} (hc : c ∈ abc.cps.toList) : nameOk (cand z c) = true := by
  obtain ⟨h1, h2, h3⟩ := nameOk_iff.mp h
  have e : (cand z c).length = ((head7 z).cps.toList ++ [c]).length := by rw [← cand_list, Array.length_toList] <;> rfl
  rw [head7_list, List.length_append, List.length_take, List.length_singleton] at e
  refine nameOk_iff.mpr ⟨by omega, by omega, fun d hd => ?_⟩
  rw [cand_list, head7_list] at hd
  rcases List.mem_append.mp hd with hd | hd
  · exact h3 d (List.mem_of_mem_take hd)
  · rw [List.mem_singleton.mp hd]
    exact hc
theorem cand_inj {z : Str} {c d : Nat} (h : cand z c = cand z d) : c = d := by
  have e := congrArg (fun s : Str => s.cps.toList) h
  have e : (cand z c).cps.toList = (cand z d).cps.toList := e
  rw [cand_list, cand_list] at e
  have e := List.append_cancel_left e
  simpa using e
theorem abc_nodup : abc.cps.toList.Nodup := by decide +kernel
theorem abc_len : abc.cps.toList.length = 26 := by decide +kernel
theorem cands_nodup (z : Str) : (cands z).Nodup := List.pairwise_map.mpr (List.Pairwise.imp (fun hne e => hne (cand_inj e)) abc_nodup)
theorem cands_free (z : Str) {zs : List Str} (h : zs.length ≤ 6) : ∃ y ∈ cands z, y ∉ zs := by
  refine Classical.byContradiction fun q => ?_
  have all : ∀ y ∈ cands z, y ∈ zs := fun y hy => Classical.byContradiction fun n => q ⟨y, hy, n⟩
  have := PySem.length_le_of_nodup_of_subset _ _ (cands_nodup z) all
  unfold cands at this
  rw [List.length_map, abc_len] at this
  omega
theorem inV_str (z : Str) : ∀ zs : List Str, inV (.str z) (zs.map V.str) = decide (z ∈ zs)
  | [] => by rw [show inV (.str z) (([] : List Str).map V.str) = false from rfl] <;> simp
  | y :: zs => by
    have ih := inV_str z zs
    have e : inV (.str z) ((y :: zs).map V.str) = ((y == z) || inV (.str z) (zs.map V.str)) := rfl
    rw [e, ih]
    by_cases h : y = z
    · subst h
      simp
    · have h' : ¬ z = y := fun q => h q.symm
      simp [h, h']
theorem flat_strs (zs : List Str) : (zs.map V.str).all flatV = true := by
  rw [List.all_map, List.all_eq_true]
  intro _ _
  rfl
def spNames : Sp := fun vs H Q _ => ∃ (st l : Addr) (many : Nat), vs = [.ref st, .int (many : Int)] ∧ StAt H st l ∧ 1 ≤ many ∧ many ≤ 6 ∧ ∀ (a : Addr) (zs : List Str) (H' : Hp), H a = none → H' a = some (.lst (zs.map V.str)) → zs.length = many → (∀ z ∈ zs, nameOk z = true) → StAt H' st l → But st H H' → Q (.ref a) H'
section
variable {P : Program} {w : World} {K : PySem.W.Frag} {mg : Str → Option Value} {base : Heap}
theorem scNames : FnScope ["_law_state", "_law_many", "_law_found", "_law_k", "_law_word_here", "_law_some", "_law_sign", "_law_one"] ["_law_state", "_law_many"] (defScope sNames) := ⟨rfl, rfl, rfl, by decide +kernel, rfl, by decide +kernel, by decide +kernel⟩
theorem ok_names {f g : Addr} {fd gd : FuncData} (D : Df K mg "_law_names" sNames ["_law_state", "_law_many"] f fd) (DW : Df K mg "_law_word" sWord ["_law_state"] g gd) (GW : FnOk P w K mg base CX0 4 g gd ["_law_state"] spWord) (B : Bu mg) : FnOk P w K mg base CX0 5 f fd ["_law_state", "_law_many"] spNames := by
  refine D.F.ok scNames (fun vs H Q E h => ?_) (fun cdv A outer s H vs Q E hr h => ?_)
  · obtain ⟨st, l, many, rfl, _⟩ := h
    rfl
  obtain ⟨st, l, many, rfl, hS, h1, h6, q⟩ := h
  have nd := scNames.nd
  refine ⟨_, pss_cons (ps_set (i := 2) nd rfl (Or.inr rfl) (pe_lst pa_nil))
    (pss_cons (ps_for PassesOwn.never rfl (pi_range1 rfl B.range (pa_cons (pv 1) pa_nil)) (pg_name (i := 3) nd rfl (Or.inl rfl))
      (pss_cons (ps_set (i := 4) nd rfl (Or.inr rfl) (pe_call GW hr rfl DW.m DW.F.kp DW.b .nil pass0 (pa_cons (pv 0) pa_nil)))
      (pss_cons (ps_if (pt_cmpR op_in_seq (pv 4) (pv 2) (by rfl))
        (pss_cons (ps_setLc (i := 5) (own := [("_law_sign", 6)]) (g := gName 6) (tt := tYes) rfl nd rfl rfl (sw_true rfl rfl rfl (by decide +kernel)) (pi_str pe_str) (blkOk_by (own := [("_law_sign", 6)]) (N := ["_law_state", "_law_many", "_law_found", "_law_k", "_law_word_here", "_law_some", "_law_sign", "_law_one"]) (sc := defScope sNames) (by decide +kernel))
          (fun _ _ _ _ _ => pg_name (i := 6) nd rfl (Or.inl rfl)) (fun _ _ _ _ _ => pts_nil) (fun _ _ _ _ _ => pe_op op_add_str (pe_slice sl_str (pv 4) po_none (po_some pe_int)) (pv 6)))
        (pss_one (ps_set (i := 4) nd rfl (Or.inr rfl) (pe_ix ix_list (pe_lc (own := [("_law_one", 7)]) (g := gName 7) rfl nd (pi_list (pv 5)) (blkOk_by (own := [("_law_one", 7)]) (N := ["_law_state", "_law_many", "_law_found", "_law_k", "_law_word_here", "_law_some", "_law_sign", "_law_one"]) (sc := defScope sNames) (by decide +kernel))
          (fun _ _ _ _ _ => pg_name (i := 7) nd rfl (Or.inl rfl)) (fun _ _ _ _ _ => pts_one (pt_cmpR (r := rIn K true) op_notIn_seq (pv 7) (pv 2) (by rfl))) (fun _ _ _ _ _ => pv 7)) pe_int (fun _ _ => rfl))))) pss_nil)
      (pss_one (ps_expr (pe_bm PySem.F.plainAttrs_list PySem.F.slot_list_append PySem.F.type_list_append mt_append (pv 2) (pa_cons (pv 4) pa_nil)))))))
    (pss_one (ps_ret (pv 2)))), ?_⟩
  refine ⟨Nat.zero_le _, fun a ha => ⟨_, rfl, many, rfl, by omega, by omega, ?_⟩⟩
  have na := hS.new ha
  refine for_range (lo := 0) (n := many) (fun i σ H' => ∃ (zs : List Str) (v3 v4 v5 : Option V), σ = [some (.ref st), some (.int (many : Int)), some (.ref a), v3, v4, v5, none, none] ∧ zs.length = i ∧ (∀ z ∈ zs, nameOk z = true) ∧ H' a = some (.lst (zs.map V.str)) ∧ StAt H' st l ∧ ButD st a H H')
    ⟨[], none, none, none, rfl, rfl, (fun z hz => nomatch hz), upd_same, hS.same (same_new ha _), ButD.of ha⟩ ?_ ?_
  · rintro i σ H1 hi ⟨zs, v3, v4, v5, rfl, hlen, hok, ha1, hS1, b1⟩
    refine ⟨_, rfl, st, l, rfl, hS1, fun z H2 hz hS2 b2 => ?_⟩
    have ha2 := b2 a _ ha1 na.1
    refine ⟨_, rfl, _, rfl, a, _, rfl, .inl (SqL.of ha2), rfl, flat_strs zs, _, rfl, ?_⟩
    have last : ∀ (y : Str) (v5 : Option V) (H3 : Hp), nameOk y = true → H3 a = some (.lst (zs.map V.str)) → StAt H3 st l → ButD st a H H3 → ∃ (zs' : List Str) (v3 v4 v5' : Option V), [some (V.ref st), some (V.int (many : Int)), some (V.ref a), some (V.int (0 + (i : Int))), some (V.str y), v5, none, none] = [some (.ref st), some (.int (many : Int)), some (.ref a), v3, v4, v5', none, none] ∧ zs'.length = i + 1 ∧ (∀ z ∈ zs', nameOk z = true) ∧ (upd H3 a (.lst (zs.map V.str ++ [V.str y]))) a = some (.lst (zs'.map V.str)) ∧ StAt (upd H3 a (.lst (zs.map V.str ++ [V.str y]))) st l ∧ ButD st a H (upd H3 a (.lst (zs.map V.str ++ [V.str y]))) := by
      intro y v5 H3 hy ha3 hS3 b3
      refine ⟨zs ++ [y], _, _, _, rfl, by rw [List.length_append, hlen] <;> rfl, fun z hz => ?_, by rw [upd_same, List.map_append] <;> rfl, hS3.upd na, fun b o e n1 n2 => by rw [upd_ne n2]; exact b3 b o e n1 n2⟩
      rcases List.mem_append.mp hz with hz | hz
      · exact hok z hz
      · rw [List.mem_singleton.mp hz]
        exact hy
    have b3 : ButD st a H H2 := fun b o e n1 n2 => b2 b o (b1 b o e n1 n2) n1
    refine ite2 (fun c => ?_) (fun c => ?_)
    · refine ⟨_, rfl, fun D hD => ?_⟩
      have nDa : D ≠ a := (ne_of_none ha2 hD).symm
      have e26 : abc.cps.size = 26 := by rw [← Array.length_toList]; exact abc_len
      refine lc_it (walk_str (z := abc)) (fun i H' => H' D = some (.lst (((abc.cps.toList.take i).map (cand z)).map V.str)) ∧ Same H2 H') ⟨upd_same, same_new hD _⟩ (fun _ _ _ _ => trivial) ?_ ?_
      · rintro j x H3 _ hj ⟨hD3, s3⟩ ⟨rfl, c, hc, rfl⟩
        have hc1 : abc.cps.toList[j]? = some c := by rw [Array.getElem?_toList]; exact hc
        have hc' : c ∈ abc.cps.toList := List.mem_of_getElem? hc1
        refine ⟨rfl, _, rfl, _, rfl, z, rfl, ?_, _, rfl, _, _, rfl, rfl, ?_, ?_⟩
        · exact Nat.le_of_lt (small1000 (by have := (nameOk_iff.mp hz).2.1; omega))
        · refine Nat.le_of_lt (small1000 ?_)
          have e1 : (head7 z).length = (head7 z).cps.toList.length := Array.length_toList.symm
          have e2 : z.cps.toList.length = z.length := Array.length_toList
          have e3 := (nameOk_iff.mp hz).2.1
          rw [head7_list, List.length_take] at e1
          show (head7 z).length + 1 ≤ 1000
          omega
        · refine ⟨_, hD3, small1000 ?_, ?_, fun b o e => ?_⟩
          · rw [List.length_map, List.length_map, List.length_take]
            have := abc_len
            omega
          · rw [upd_same, List.take_add_one, hc1, List.map_append, List.map_append]
            rfl
          · rw [upd_ne (ne_of_none e hD)]
            exact s3 b o e
      · rintro H3 ⟨hD3, s3⟩
        rw [e26, show (26 : Nat) = abc.cps.toList.length from abc_len.symm, List.take_length] at hD3
        have hD3 : H3 D = some (.lst ((cands z).map V.str)) := hD3
        have clen : (cands z).length = 26 := by unfold cands; rw [List.length_map, abc_len]
        have ha3 := s3 _ _ ha2
        refine ⟨_, rfl, D, rfl, ⟨_, SqL.of hD3⟩, fun W hW => ?_⟩
        have nWa : W ≠ a := (ne_of_none ha3 hW).symm
        refine lc_list (K := K) (a := D) (xs := (cands z).map V.str) (fun i H' => ∃ acc : List Str, H' W = some (.lst (acc.map V.str)) ∧ acc.length ≤ i ∧ (∀ y ∈ acc, y ∈ cands z) ∧ ((∃ y ∈ (cands z).take i, y ∉ zs) → acc ≠ []) ∧ Same H3 H') ?_ ?_ ?_ ?_
        · exact ⟨[], upd_same, Nat.le_refl _, (fun y hy => nomatch hy), (fun ⟨y, hy, _⟩ => by simp at hy), same_new hW _⟩
        · rintro j H4 _ ⟨acc, hW4, _, _, _, s4⟩
          exact SqL.of (s4 _ _ hD3)
        · rintro j x H4 hx ⟨acc, hW4, hl4, hin, hne, s4⟩
          obtain ⟨y, hy, rfl⟩ : ∃ y, (cands z)[j]? = some y ∧ x = .str y := by
            rw [List.getElem?_map] at hx
            cases e : (cands z)[j]? with
            | none => rw [e] at hx; cases hx
            | some y => rw [e] at hx; exact ⟨y, rfl, (Option.some.inj hx).symm⟩
          have hj : j < 26 := by
            have := (List.getElem?_eq_some_iff.mp hy).1
            omega
          refine ⟨rfl, _, rfl, _, rfl, a, _, rfl, .inl (SqL.of (s4 _ _ ha3)), rfl, flat_strs zs, _, rfl, ?_⟩
          refine ite2 (fun c2 => ?_) (fun c2 => ?_)
          · refine ⟨_, rfl, _, hW4, small1000 (by rw [List.length_map]; omega), acc ++ [y], by rw [upd_same, List.map_append] <;> rfl, by rw [List.length_append, List.length_singleton]; omega, fun u hu => ?_, fun _ => by simp, fun b o e => by rw [upd_ne (ne_of_none e hW)]; exact s4 b o e⟩
            rcases List.mem_append.mp hu with hu | hu
            · exact hin u hu
            · rw [List.mem_singleton.mp hu]
              exact List.mem_of_getElem? hy
          · refine ⟨acc, hW4, by omega, hin, fun ⟨u, hu, hnu⟩ => ?_, s4⟩
            rw [List.take_add_one, hy] at hu
            rcases List.mem_append.mp hu with hu | hu
            · exact hne ⟨u, hu, hnu⟩
            · have e : u = y := by simpa using hu
              subst e
              have q : (!inV (V.str u) (zs.map V.str)) = true := by rw [inV_str]; simp [hnu]
              exact absurd q c2
        · rintro H4 ⟨acc, hW4, hl4, hin, hne, s4⟩
          rw [List.length_map, clen] at hne
          have hne' : acc ≠ [] := by
            refine hne ?_
            obtain ⟨y, hy, hn⟩ := cands_free z (zs := zs) (by omega)
            exact ⟨y, by rw [List.take_of_length_le (by omega)]; exact hy, hn⟩
          cases acc with
          | nil => exact absurd rfl hne'
          | cons y acc =>
            have hyc := hin y List.mem_cons_self
            have hy : nameOk y = true := by
              obtain ⟨c, hc, rfl⟩ := List.mem_map.mp hyc
              exact cand_ok hz hc
            have ha4 := s4 _ _ ha3
            have s24 : Same H2 H4 := s3.trans s4
            refine ⟨W, _, _, _, rfl, rfl, SqL.of hW4, atI_nat (j := 0) rfl, ?_⟩
            exact ⟨_, rfl, .inl ⟨rfl, _, SqL.of ha4⟩, _, rfl, a, _, _, rfl, rfl, ha4, small1000 (by rw [List.length_map]; omega), last y _ H4 hy ha4 (hS2.same s24) fun b o e n1 n2 => s24 b o (b3 b o e n1 n2)⟩
    · exact ⟨_, rfl, .inl ⟨rfl, _, SqL.of ha2⟩, _, rfl, a, _, _, rfl, rfl, ha2, small1000 (by rw [List.length_map]; omega), last z _ H2 hz ha2 hS2 b3⟩
  · rintro σ H1 ⟨zs, v3, v4, v5, rfl, hlen, hok, ha1, hS1, b1⟩
    exact ⟨_, rfl, q a zs H1 ha ha1 hlen hok hS1 (b1.but ha)⟩
end
end Ho
end

section
set_option Elab.async false
set_option linter.all false
set_option maxRecDepth 100000
set_option maxHeartbeats 2000000
/-! K5d: rooms as data; the drawn tree and its turning. -/
namespace Ho
open PySem PySem.Spec PyProof.Rows L2
/-! ### rooms as data -/
theorem eqv_strs : ∀ xs ys : List Str, PyData.eqvAll (xs.map .str) (ys.map .str) = decide (xs = ys)
  | [], [] => by simp [PyData.eqvAll]
  | [], _ :: _ => by simp [PyData.eqvAll]
  | _ :: _, [] => by simp [PyData.eqvAll]
  | x :: xs, y :: ys => by
    have ih := eqv_strs xs ys
    simp only [List.map_cons, PyData.eqvAll, PyData.eqv, ih, List.cons.injEq]
    by_cases h : x = y
    · subst h
      by_cases h2 : xs = ys <;> simp [h2]
    · simp [h]
theorem eqv_room (r q : Rm) : PyData.eqv (enc r) (enc q) = decide (r = q) := by
  unfold enc
  simp only [PyData.eqv]
  exact eqv_strs r q
theorem eqv_encs : ∀ xs ys : List Rm, PyData.eqvAll (xs.map enc) (ys.map enc) = decide (xs = ys)
  | [], [] => by simp [PyData.eqvAll]
  | [], _ :: _ => by simp [PyData.eqvAll]
  | _ :: _, [] => by simp [PyData.eqvAll]
  | x :: xs, y :: ys => by
    have ih := eqv_encs xs ys
    simp only [List.map_cons, PyData.eqvAll, eqv_room, ih, List.cons.injEq]
    by_cases h : x = y
    · subst h
      by_cases h2 : xs = ys <;> simp [h2]
    · simp [h]
theorem eqv_rooms (xs ys : List Rm) : PyData.eqv (.list (xs.map enc)) (.list (ys.map enc)) = decide (xs = ys) := by
  simp only [PyData.eqv]
  exact eqv_encs xs ys
def RmOk (r : Rm) : Prop := ∀ z ∈ r, nameOk z = true
theorem small_signs : abc.cps.toList.all (fun c => decide (c < 0x110000)) = true := by decide +kernel
theorem name_strOk {z : Str} (h : nameOk z = true) : PyData.strOk z = true := by
  unfold PyData.strOk
  rw [← Array.all_toList, List.all_eq_true]
  intro c hc
  exact (List.all_eq_true.mp small_signs) c ((nameOk_iff.mp h).2.2 c hc)
theorem lay_strs : ∀ {r : Rm}, RmOk r → PyData.canLayAll0 (r.map .str) = true
  | [], _ => by simp [PyData.canLayAll0]
  | z :: r, h => by
    have ih := lay_strs (r := r) fun y hy => h y (List.mem_cons_of_mem _ hy)
    simp only [List.map_cons, PyData.canLayAll0, PyData.canLay0, ih, name_strOk (h z List.mem_cons_self), Bool.and_self]
theorem lay_rooms : ∀ {L : List Rm}, (∀ r ∈ L, RmOk r) → PyData.canLayAll0 (L.map enc) = true
  | [], _ => by simp [PyData.canLayAll0]
  | r :: L, h => by
    have ih := lay_rooms (L := L) fun y hy => h y (List.mem_cons_of_mem _ hy)
    simp only [List.map_cons, PyData.canLayAll0, ih, Bool.and_true]
    unfold enc
    simp only [PyData.canLay0]
    exact lay_strs (h r List.mem_cons_self)
theorem depth_rooms : ∀ L : List Rm, PyData.depthAll (L.map enc) ≤ 1
  | [] => by simp [PyData.depthAll]
  | r :: L => by
    have ih := depth_rooms L
    simp only [List.map_cons, PyData.depthAll, depth_room]
    omega
theorem shaped_room {r : Rm} (h : RmOk r) : SeqAt.shaped (enc r) = true := by
  unfold SeqAt.shaped
  rw [depth_room, Bool.and_eq_true]
  refine ⟨?_, by decide⟩
  unfold enc
  simp only [PyData.canLay0]
  exact lay_strs h
theorem shaped_rooms {L : List Rm} (h : ∀ r ∈ L, RmOk r) : SeqAt.shaped (.list (L.map enc)) = true := by
  unfold SeqAt.shaped
  rw [Bool.and_eq_true]
  refine ⟨?_, ?_⟩
  · simp only [PyData.canLay0]
    exact lay_rooms h
  · have := depth_rooms L
    rw [decide_eq_true_eq, PyData.depth]
    omega
theorem any_room (r : Rm) (L : List Rm) : ((L.map enc).any fun z => PyData.eqv z (enc r)) = decide (r ∈ L) := by
  induction L with
  | nil => simp
  | cons q L ih =>
    rw [List.map_cons, List.any_cons, ih, eqv_room]
    by_cases h : q = r
    · subst h; simp
    · have h' : ¬ r = q := fun e => h e.symm
      simp [h, h']
theorem erase_perm {B : Type} : ∀ (R : List B) (j : Nat) (h : j < R.length), (R[j] :: R.eraseIdx j).Perm R
  | [], _, h => nomatch h
  | x :: R, 0, _ => .refl _
  | x :: R, j + 1, h => (List.Perm.swap x (R[j]'(by simpa using h)) (R.eraseIdx j)).trans (.cons x (erase_perm R j (by simpa using h)))
theorem erase_map {B C : Type} (f : B → C) : ∀ (R : List B) (j : Nat), (R.map f).eraseIdx j = (R.eraseIdx j).map f
  | [], _ => rfl
  | _ :: _, 0 => rfl
  | x :: R, j + 1 => congrArg (f x :: ·) (erase_map f R j)
/-! ### lists of rooms -/
abbrev Rw := List (Addr × Rm)
def rf (L : Rw) : List V := L.map fun p => V.ref p.1
def nm (L : Rw) : List Rm := L.map (·.2)
theorem RowsIn.room {H : Hp} {L : Rw} (h : RowsIn H L) : Rooms H (rf L) (nm L) := by
  induction L with
  | nil => exact .nil
  | cons p L ih => exact .cons ⟨p.1, rfl, h p List.mem_cons_self⟩ (ih fun q hq => h q (List.mem_cons_of_mem _ hq))
theorem RowsIn.dp {K : PySem.W.Frag} {H : Hp} {L : Rw} (h : RowsIn H L) : DpAll K H (rf L) ((nm L).map enc) := h.room.dp
theorem room_dp {K : PySem.W.Frag} {H : Hp} {t : Addr} {r : Rm} (h : H t = some (.tup (r.map V.str))) : Dp K H (.ref t) (enc r) := RoomAt.dp ⟨t, rfl, h⟩
theorem RowsIn.list {K : PySem.W.Frag} {H : Hp} {L : Rw} {a : Addr} (h : RowsIn H L) (ha : SqL K H a (rf L)) : Dp K H (.ref a) (.list ((nm L).map enc)) := .lst ha h.dp
theorem rows_but {st : Addr} {l : Addr} {H H' : Hp} {L : Rw} (h : RowsIn H L) (s : StAt H st l) (b : But st H H') : RowsIn H' L := fun p hp => b _ _ (h p hp) (s.tup (h p hp))
theorem rows_same {H H' : Hp} {L : Rw} (h : RowsIn H L) (b : Same H H') : RowsIn H' L := fun p hp => b _ _ (h p hp)
theorem rows_upd {H : Hp} {L : Rw} {D : Addr} {xs : List V} {o : HO} (h : RowsIn H L) (e : H D = some (.lst xs)) : RowsIn (upd H D o) L := fun p hp => by
  rw [upd_ne (ne_of (h p hp) e (fun z => nomatch z))]
  exact h p hp
theorem rf_len (L : Rw) : (rf L).length = L.length := List.length_map _
theorem rf_get {L : Rw} {i : Nat} {x : V} (h : (rf L)[i]? = some x) : ∃ p, L[i]? = some p ∧ x = .ref p.1 := by
  unfold rf at h
  rw [List.getElem?_map] at h
  cases e : L[i]? with
  | none => rw [e] at h; cases h
  | some p => rw [e] at h; exact ⟨p, rfl, (Option.some.inj h).symm⟩
def spTree : Sp := fun vs H Q _ => ∃ (st l : Addr), vs = [.ref st] ∧ StAt H st l ∧ ∀ (a : Addr) (L : Rw) (H' : Hp), H a = none → H' a = some (.lst (rf L)) → RowsIn H' L → Good (nm L) → L.length ≤ 60 → (∀ r ∈ nm L, RmOk r) → StAt H' st l → But st H H' → Q (.ref a) H'
def spTurned : Sp := fun vs H Q _ => ∃ (st l b : Addr) (L : Rw), vs = [.ref st, .ref b] ∧ StAt H st l ∧ H b = some (.lst (rf L)) ∧ L.length ≤ 60 ∧ ∀ (a : Addr) (L' : Rw) (H' : Hp), H a = none → H' a = some (.lst (rf L')) → L'.Perm L → StAt H' st l → But st H H' → Q (.ref a) H'
section
variable {P : Program} {w : World} {K : PySem.W.Frag} {mg : Str → Option Value} {base : Heap}
theorem scTurned : FnScope ["_law_state", "_law_some", "_law_left", "_law_k"] ["_law_state", "_law_some"] (defScope sTurned) := ⟨rfl, rfl, rfl, by decide +kernel, rfl, by decide +kernel, by decide +kernel⟩
theorem ok_turned {f g : Addr} {fd gd : FuncData} (D : Df K mg "_law_turned" sTurned ["_law_state", "_law_some"] f fd) (DN : Df K mg "_law_next" sNext ["_law_state", "_law_many"] g gd) (GN : FnOk P w K mg base CX0 2 g gd ["_law_state", "_law_many"] spNext) (B : Bu mg) : FnOk P w K mg base CX0 3 f fd ["_law_state", "_law_some"] spTurned := by
  refine D.F.ok scTurned (fun vs H Q E h => ?_) (fun cdv A outer s H vs Q E hr h => ?_)
  · obtain ⟨st, l, b, L, rfl, _⟩ := h
    rfl
  obtain ⟨st, l, b, L, rfl, hS, hb, h60, q⟩ := h
  have nd := scTurned.nd
  refine ⟨_, pss_cons (ps_set (i := 2) nd rfl (Or.inr rfl) (pe_callTy call_list_of (by rfl) B.list (by decide +kernel) (pa_cons (pv 1) pa_nil)))
    (pss_one (ps_ret (pe_lc (own := [("_law_k", 3)]) (g := gName 3) (tt := tYes) rfl nd (pi_range1 rfl B.range (pa_cons (pe_callB call_len_seq (by rfl) B.len PySem.boot_len (pa_cons (pv 2) pa_nil)) pa_nil)) (blkOk_by (own := [("_law_k", 3)]) (N := ["_law_state", "_law_some", "_law_left", "_law_k"]) (sc := defScope sTurned) (by decide +kernel))
      (fun _ _ _ _ _ => pg_name (i := 3) nd rfl (Or.inl rfl)) (fun _ _ _ _ _ => pts_nil)
      (te := tBM K "list" rPopAt (tVar 2) (tCons (tCall spNext [] E0 (tCons (tVar 0) (tCons (tCB (fun xs H Q => ∃ p ys, xs = [V.ref p] ∧ (SqL K H p ys ∨ SqT K H p ys) ∧ Q (.int (ys.length : Int)) H) (tCons (tVar 2) tNil)) tNil))) tNil))
      (fun _ _ _ _ _ => pe_bm PySem.F.plainAttrs_list PySem.F.slot_list_pop PySem.F.type_list_pop mt_popAt (pv 2) (pa_cons (pe_call GN hr rfl DN.m DN.F.kp DN.b .nil pass0 (pa_cons (pv 0) (pa_cons (pe_callB call_len_seq (by rfl) B.len PySem.boot_len (pa_cons (pv 2) pa_nil)) pa_nil))) pa_nil))))), ?_⟩
  refine ⟨_, rfl, b, _, rfl, .inl (SqL.of hb), fun a ha => ?_⟩
  have na := hS.new ha
  have ha1 : upd H a (.lst (rf L)) a = some (.lst (rf L)) := upd_same
  refine ⟨_, rfl, a, _, rfl, .inl (SqL.of ha1), L.length, by rw [rf_len], by omega, by omega, fun D hD => ?_⟩
  have s1 : Same H (upd H a (.lst (rf L))) := same_new ha _
  have hS1 := hS.same s1
  generalize upd H a (.lst (rf L)) = H1 at ha1 s1 hS1 hD ⊢
  have nD := hS1.new hD
  have nDa : D ≠ a := (ne_of_none ha1 hD).symm
  have hD0 : H D = none := s1.free hD
  refine lc_range (lo := 0) (n := L.length) (fun i H' => ∃ A R : Rw, A.length = i ∧ (A ++ R).Perm L ∧ H' D = some (.lst (rf A)) ∧ H' a = some (.lst (rf R)) ∧ StAt H' st l ∧ ∀ b o, H b = some o → b ≠ st → H' b = some o) ?_ ?_ ?_
  · exact ⟨[], L, rfl, .refl _, upd_same, by rw [upd_ne nDa.symm]; exact ha1, hS1.same (same_new hD _), fun b o e n => by rw [upd_ne (ne_of_none e hD0)]; exact s1 b o e⟩
  · rintro i H2 hi ⟨A, R, hlen, pm, hD2, ha2, hS2, k2⟩
    have hAR : A.length + R.length = L.length := by rw [← List.length_append]; exact pm.length_eq
    refine ⟨rfl, _, rfl, .inl ⟨rfl, _, SqL.of ha2⟩, _, rfl, _, rfl, a, _, rfl, .inl (SqL.of ha2), st, l, _, rfl, hS2, by rw [rf_len]; omega, by rw [rf_len]; omega, fun j H3 hj hS3 b3 => ?_⟩
    rw [rf_len] at hj
    have hj' : j < R.length := by omega
    have hD3 := b3 D _ hD2 nD.1
    have ha3 := b3 a _ ha2 na.1
    refine ⟨a, _, _, j, .ref R[j].1, rfl, rfl, ha3, by omega, by omega, ?_, by unfold rf; rw [List.getElem?_map, List.getElem?_eq_getElem hj'] <;> rfl, ?_⟩
    · unfold seqIndex?
      rw [rf_len]
      rw [if_neg (show ¬ ((j : Int) < 0) by omega)]
      rw [if_pos (by simp; omega)]
      rfl
    · refine ⟨rf A, by rw [upd_ne nDa]; exact hD3, small1000 (by rw [rf_len]; omega), A ++ [R[j]], R.eraseIdx j, by rw [List.length_append, hlen] <;> rfl, ?_, ?_, ?_, (hS3.upd na).upd nD, fun b o e n => ?_⟩
      · refine List.Perm.trans ?_ pm
        rw [List.append_assoc]
        refine List.Perm.append_left A ?_
        exact erase_perm R j hj'
      · rw [upd_same]
        unfold rf
        rw [List.map_append] <;> rfl
      · rw [upd_ne nDa.symm, upd_same]
        unfold rf
        rw [erase_map]
      · rw [upd_ne (ne_of_none e hD0), upd_ne (ne_of_none e ha)]
        exact b3 b o (k2 b o e n) n
  · rintro H2 ⟨A, R, hlen, pm, hD2, ha2, hS2, k2⟩
    have hAR : A.length + R.length = L.length := by rw [← List.length_append]; exact pm.length_eq
    have hR : R = [] := List.eq_nil_of_length_eq_zero (by omega)
    subst hR
    rw [List.append_nil] at pm
    exact q D A H2 hD0 hD2 pm hS2 k2
end
end Ho
end

section
set_option Elab.async false
set_option linter.all false
set_option maxRecDepth 100000
set_option maxHeartbeats 2000000
/-! K5e: the drawn tree. -/
namespace Ho
open PySem PySem.Spec PyProof.Rows L2
theorem good_snoc {L : List Rm} {r : Rm} {x : Str} (G : Good L) (hn : r ++ [x] ∉ L) (hr : r = [] ∨ r ∈ L) (hl : r.length < 4) : Good (L ++ [r ++ [x]]) where
  nd := by
    refine List.nodup_append.mpr ⟨G.nd, by simp, fun a ha b hb e => ?_⟩
    rw [List.mem_singleton.mp hb] at e
    rw [e] at ha
    exact hn ha
  ne := fun h => by
    rcases List.mem_append.mp h with h | h
    · exact G.ne h
    · have := List.mem_singleton.mp h
      simp at this
  up := fun t ht => by
    rcases List.mem_append.mp ht with h | h
    · rcases G.up t h with q | q
      · exact .inl (List.mem_append_left _ q)
      · exact .inr q
    · rw [List.mem_singleton.mp h, List.dropLast_concat]
      rcases hr with q | q
      · exact .inr q
      · exact .inl (List.mem_append_left _ q)
  deep := fun t ht => by
    rcases List.mem_append.mp ht with h | h
    · exact G.deep t h
    · rw [List.mem_singleton.mp h, List.length_append, List.length_singleton]
      omega
abbrev rLen (K : PySem.W.Frag) : List V → Hp → VK → Prop := fun xs H Q => ∃ p ys, xs = [V.ref p] ∧ (SqL K H p ys ∨ SqT K H p ys) ∧ Q (.int (ys.length : Int)) H
section
variable {P : Program} {w : World} {K : PySem.W.Frag} {mg : Str → Option Value} {base : Heap}
theorem scTree : FnScope ["_law_state", "_law_many", "_law_names_here", "_law_found", "_law_k", "_law_room", "_law_one"] ["_law_state"] (defScope sTree) := ⟨rfl, rfl, rfl, by decide +kernel, rfl, by decide +kernel, by decide +kernel⟩
theorem ok_tree {f n g m : Addr} {fd nd' gd md : FuncData} (D : Df K mg "_law_tree" sTree ["_law_state"] f fd) (DN : Df K mg "_law_next" sNext ["_law_state", "_law_many"] n nd') (GN : FnOk P w K mg base CX0 2 n nd' ["_law_state", "_law_many"] spNext)
    (DP : Df K mg "_law_pick" sPick ["_law_state", "_law_some"] g gd) (DM : Df K mg "_law_names" sNames ["_law_state", "_law_many"] m md) (GM : FnOk P w K mg base CX0 5 m md ["_law_state", "_law_many"] spNames) (B : Bu mg) : FnOk P w K mg base CX0 6 f fd ["_law_state"] spTree := by
  have GP : FnOk P w K mg base CX0 3 g gd ["_law_state", "_law_some"] (spPick K) := ok_pick DP DN GN B
  refine D.F.ok scTree (fun vs H Q E h => ?_) (fun cdv A outer s H vs Q E hr h => ?_)
  · obtain ⟨st, l, rfl, _⟩ := h
    rfl
  obtain ⟨st, l, rfl, hS, q⟩ := h
  have nd := scTree.nd
  have hr2 : Room 2 _ := hr.mono (by decide)
  have hr3 : Room 3 _ := hr.mono (by decide)
  have hu : (A.deeper (envOfC "_law_tree" (defScope sTree) s.heap.objs.size f cdv)).units + 65 < cLine := by have := hr.un; omega
  refine ⟨_, pss_cons (ps_set (i := 1) nd rfl (Or.inl rfl) (pe_ix ix_list (pe_lst (pa_cons (pe_call GN hr2 rfl DN.m DN.F.kp DN.b .nil pass0 (pa_cons (pv 0) (pa_cons pe_int pa_nil))) (pa_cons (pe_call GN hr2 rfl DN.m DN.F.kp DN.b .nil pass0 (pa_cons (pv 0) (pa_cons pe_int pa_nil))) (pa_cons pe_int pa_nil))))
        (pe_op op_fdiv (pe_op op_add pe_int (pe_call GN hr2 rfl DN.m DN.F.kp DN.b .nil pass0 (pa_cons (pv 0) (pa_cons pe_int pa_nil)))) pe_int) (fun _ _ => rfl)))
    (pss_cons (ps_set (i := 2) nd rfl (Or.inl rfl) (pe_call GM hr rfl DM.m DM.F.kp DM.b .nil pass0 (pa_cons (pv 0) (pa_cons (pe_op op_add pe_int (pe_call GN hr2 rfl DN.m DN.F.kp DN.b .nil pass0 (pa_cons (pv 0) (pa_cons pe_int pa_nil)))) pa_nil))))
    (pss_cons (ps_set (i := 3) nd rfl (Or.inl rfl) (pe_lst (pa_cons (pe_tup pa_nil) pa_nil)))
    (pss_cons (ps_for PassesOwn.never rfl (pi_range1 rfl B.range (pa_cons (pv 1) pa_nil)) (pg_name (i := 4) nd rfl (Or.inl rfl))
      (pss_cons (ps_set (i := 6) nd rfl (Or.inl rfl) (pe_call GP hr3 rfl DP.m DP.F.kp DP.b .nil pass0 (pa_cons (pv 0) (pa_cons (pe_lc (own := [("_law_room", 5)]) (g := gName 5) rfl nd (pi_list (pv 3)) (blkOk_by (own := [("_law_room", 5)]) (N := ["_law_state", "_law_many", "_law_names_here", "_law_found", "_law_k", "_law_room", "_law_one"]) (sc := defScope sTree) (by decide +kernel))
          (fun _ _ _ _ _ => pg_name (i := 5) nd rfl (Or.inl rfl)) (fun _ _ _ _ _ => pts_one (pt_cmpR op_lt (pe_callB (r := rLen K) call_len_seq (by rfl) B.len PySem.boot_len (pa_cons (pv 5) pa_nil)) pe_int (nomark _))) (fun _ _ _ _ _ => pv 5)) pa_nil))))
      (pss_cons (ps_set (i := 5) nd rfl (Or.inl rfl) (pe_op op_catA (pv 6) (pe_tup (pa_cons (pe_call GP hr3 rfl DP.m DP.F.kp DP.b .nil pass0 (pa_cons (pv 0) (pa_cons (pv 2) pa_nil))) pa_nil))))
      (pss_one (ps_if (pt_cmpR (op_notInD hu) (pv 5) (pv 3) (by rfl)) (pss_one (ps_expr (pe_bm PySem.F.plainAttrs_list PySem.F.slot_list_append PySem.F.type_list_append mt_append (pv 3) (pa_cons (pv 5) pa_nil)))) pss_nil)))))
    (pss_one (ps_ret (pe_slice sl_list (pv 3) (po_some pe_int) po_none)))))), ?_⟩
  refine ⟨_, rfl, st, l, _, rfl, hS, by decide, by decide, fun j1 H1 hj1 hS1 b1 => ⟨_, rfl, st, l, _, rfl, hS1, by decide, by decide, fun j2 H2 hj2 hS2 b2 => ⟨by show 3 ≤ sizeLine; decide, fun e he => ⟨_, rfl, st, l, _, rfl, hS2.same (same_new he _), by decide, by decide, fun j3 H3 hj3 hS3 b3 => ?_⟩⟩⟩⟩
  have ne := hS2.new he
  have he3 := b3 e _ upd_same ne.1
  have b03 : But st H H3 := ((b1.trans b2).trans (But.of (same_new he _))).trans b3
  refine ⟨_, _, rfl, rfl, _, _, rfl, rfl, ⟨by decide, by decide⟩, ?_⟩
  have two : ∃ k : Nat, ([V.int (j1 : Int), V.int (j2 : Int), V.int 60] : List V)[(1 + j3) / 4]? = some (.int (k : Int)) ∧ k ≤ 60 := by
    have h3 : (1 + j3) / 4 < 3 := by omega
    generalize (1 + j3) / 4 = x at h3 ⊢
    match x, h3 with
    | 0, _ => exact ⟨j1, rfl, by omega⟩
    | 1, _ => exact ⟨j2, rfl, by omega⟩
    | 2, _ => exact ⟨60, rfl, by omega⟩
  obtain ⟨k, hk, hk60⟩ := two
  refine ⟨e, _, _, _, rfl, rfl, SqL.of he3, at_of (j := (1 + j3) / 4) (by omega) hk, ?_⟩
  refine ⟨_, rfl, _, rfl, st, l, _, rfl, hS3, by decide, by decide, fun j4 H4 hj4 hS4 b4 => ⟨_, _, rfl, rfl, st, l, 1 + j4, congrArg (fun z => [V.ref st, V.int z]) (show (1 : Int) + (j4 : Int) = ((1 + j4 : Nat) : Int) by omega), hS4, by omega, by omega, fun nms zs H5 hn0 hn5 hlz hokz hS5 b5 => ?_⟩⟩
  have nnst : nms ≠ st := hS5.lst hn5
  have b05 : But st H H5 := (b03.trans b4).trans b5
  refine ⟨Nat.zero_le _, fun t0 ht0 => ⟨by show 1 ≤ sizeLine; decide, fun F hF => ?_⟩⟩
  have s56 : Same H5 (upd H5 t0 (.tup [])) := same_new ht0 _
  have ht6 : upd H5 t0 (.tup []) t0 = some (.tup (([] : Rm).map V.str)) := upd_same
  have hS6 := hS5.same s56
  have hn6 := s56 nms _ hn5
  have k06 : ∀ b o, H b = some o → b ≠ st → upd H5 t0 (.tup []) b = some o := fun b o e n => s56 b o (b05 b o e n)
  have hF0 : H F = none := by
    cases e : H F with
    | none => rfl
    | some o =>
      by_cases n : F = st
      · exact absurd n (hS6.new hF).1
      · rw [k06 F o e n] at hF
        cases hF
  generalize upd H5 t0 (.tup []) = H6 at s56 ht6 hS6 hn6 k06 hF ⊢
  have nF := hS6.new hF
  have nmsF : nms ≠ F := ne_of_none hn6 hF
  have s67 : Same H6 (upd H6 F (.lst (rf [(t0, [])]))) := same_new hF _
  refine ⟨_, rfl, k, rfl, by omega, by omega, ?_⟩
  refine for_range (lo := 0) (n := k) (fun i σ H' => ∃ (L : Rw) (v4 v5 v6 : Option V), σ = [some (.ref st), some (.int (k : Int)), some (.ref nms), some (.ref F), v4, v5, v6] ∧ H' F = some (.lst (rf ((t0, []) :: L))) ∧ RowsIn H' ((t0, []) :: L) ∧ Good (nm L) ∧ L.length ≤ i ∧ (∀ r ∈ nm ((t0, []) :: L), RmOk r) ∧ StAt H' st l ∧ H' nms = some (.lst (zs.map V.str)) ∧ ∀ b o, H b = some o → b ≠ st → H' b = some o) ?_ ?_ ?_
  · refine ⟨[], none, none, none, rfl, upd_same, fun p hp => ?_, ⟨.nil, (fun h => nomatch h), (fun t h => nomatch h), (fun t h => nomatch h)⟩, Nat.le_refl _, fun r hr => ?_, hS6.same s67, s67 _ _ hn6, fun b o e n => s67 b o (k06 b o e n)⟩
    · rw [List.mem_singleton.mp hp]
      exact s67 _ _ ht6
    · rw [List.mem_singleton.mp hr]
      exact fun z hz => nomatch hz
  · rintro i σ H1 hi ⟨L, v4, v5, v6, rfl, hF1, hR1, hG, hlen, hok, hS1, hn1, k1⟩
    refine ⟨_, rfl, _, rfl, F, rfl, ⟨_, SqL.of hF1⟩, fun D hD => ?_⟩
    have nD := hS1.new hD
    refine lc_list (K := K) (a := F) (xs := rf ((t0, []) :: L)) (fun j H' => ∃ A : Rw, H' D = some (.lst (rf A)) ∧ A.length ≤ j ∧ (∀ p ∈ A, p ∈ (t0, []) :: L ∧ p.2.length < 4) ∧ (1 ≤ j → A ≠ []) ∧ Same H1 H') ?_ ?_ ?_ ?_
    · exact ⟨[], upd_same, Nat.le_refl _, (fun p hp => nomatch hp), (fun h => absurd h (by decide)), same_new hD _⟩
    · rintro j H2 _ ⟨A, _, _, _, _, s2⟩
      exact SqL.of (s2 _ _ hF1)
    · rintro j x H2 hx ⟨A, hA, hAl, hAi, hAn, s2⟩
      obtain ⟨p, hp, rfl⟩ := rf_get hx
      have hj : j < 61 := by
        have := (List.getElem?_eq_some_iff.mp hp).1
        rw [List.length_cons] at this
        omega
      have hpm := List.mem_of_getElem? hp
      have hpt := s2 _ _ (hR1 p hpm)
      refine ⟨rfl, _, rfl, p.1, _, rfl, .inr (SqT.of hpt), _, _, rfl, rfl, _, rfl, ite2 (fun c => ?_) (fun c => ?_)⟩
      · have c' : (((p.2.map V.str).length : Nat) : Int) < 4 := of_decide_eq_true c
        rw [List.length_map] at c'
        refine ⟨_, rfl, _, hA, small1000 (by rw [rf_len]; omega), A ++ [p], by rw [upd_same]; unfold rf; rw [List.map_append] <;> rfl, by rw [List.length_append, List.length_singleton]; omega, fun u hu => ?_, fun _ => by simp, fun b o e => by rw [upd_ne (ne_of_none e hD)]; exact s2 b o e⟩
        rcases List.mem_append.mp hu with hu | hu
        · exact hAi u hu
        · rw [List.mem_singleton.mp hu]
          exact ⟨hpm, by omega⟩
      · refine ⟨A, hA, by omega, hAi, fun h1 => ?_, s2⟩
        cases j with
        | zero =>
          have e : p = (t0, []) := by simpa using hp.symm
          rw [e] at c
          exact absurd (decide_eq_true (show (((([] : Rm).map V.str).length : Nat) : Int) < 4 by decide)) c
        | succ j => exact hAn (by omega)
    · rintro H2 ⟨A, hA, hAl, hAi, hAn, s2⟩
      rw [rf_len, List.length_cons] at hAl hAn
      have hA0 : 0 < A.length := List.length_pos_iff.mpr (hAn (by omega))
      refine ⟨st, l, D, _, rfl, hS1.same s2, hA, by rw [rf_len]; exact hA0, by rw [rf_len]; omega, fun ip x H3 hx hS3 b3 => ?_⟩
      obtain ⟨pr, hp, rfl⟩ := rf_get hx
      obtain ⟨o1, r⟩ := pr
      have hpm := hAi _ (List.mem_of_getElem? hp)
      have hr2 : r ∈ nm ((t0, []) :: L) := List.mem_map.mpr ⟨_, hpm.1, rfl⟩
      have hr4 : r.length < 4 := hpm.2
      have b13 : But st H1 H3 := (But.of s2).trans b3
      have hn3 := b13 nms _ hn1 nnst
      refine ⟨_, rfl, _, rfl, _, rfl, st, l, nms, _, rfl, hS3, hn3, by rw [List.length_map]; omega, by rw [List.length_map]; omega, fun iz x H4 hx hS4 b4 => ⟨by show 1 ≤ sizeLine; decide, fun t ht => ?_⟩⟩
      obtain ⟨z, hz1, rfl⟩ : ∃ z, zs[iz]? = some z ∧ x = .str z := by
        rw [List.getElem?_map] at hx
        cases e : zs[iz]? with
        | none => rw [e] at hx; cases hx
        | some z => rw [e] at hx; exact ⟨z, rfl, (Option.some.inj hx).symm⟩
      have hz := hokz z (List.mem_of_getElem? hz1)
      have b14 := b13.trans b4
      have k4 : ∀ b o, H b = some o → b ≠ st → H4 b = some o := fun b o e n => b14 b o (k1 b o e n) n
      have hF4 := b14 F _ hF1 nF.1
      have hR4 := rows_but hR1 hS1 b14
      have hn4 := b14 nms _ hn1 nnst
      have ho4 := hR4 _ hpm.1
      have ho5 := same_new ht (.tup [V.str z]) _ _ ho4
      refine ⟨o1, t, _, _, rfl, rfl, SqT.of ho5, SqT.of upd_same, ?_, fun er => ?_, fun _ e => absurd e (by simp), fun er _ p hp => ?_⟩
      · refine Nat.le_of_lt (small1000 ?_)
        rw [List.length_map, List.length_singleton]
        omega
      · have er : r = [] := List.map_eq_nil_iff.mp er
        have s56 : Same H4 (upd H4 t (.tup [V.str z])) := same_new ht _
        have k6 : ∀ b o, H b = some o → b ≠ st → (upd H4 t (.tup [V.str z])) b = some o := fun b o e n => s56 b o (k4 b o e n)
        have hF5 := s56 F _ hF4
        have hR5 := rows_same hR4 s56
        have hn5 := s56 nms _ hn4
        have hS5 := hS4.same s56
        clear hF4 hR4 hn4 hS4
        have h5 : upd H4 t (.tup [V.str z]) t = some (.tup ((r ++ [z]).map V.str)) := by rw [upd_same, er] <;> rfl
        generalize upd H4 t (.tup [V.str z]) = H7 at s56 k6 hF5 hR5 hn5 hS5 h5 ⊢
        have okr : RmOk (r ++ [z]) := fun y hy => by
          rcases List.mem_append.mp hy with hy | hy
          · exact hok _ hr2 y hy
          · rw [List.mem_singleton.mp hy]
            exact hz
        refine ⟨_, rfl, _, rfl, _, _, room_dp h5, hR5.list (SqL.of hF5), shaped_room okr, shaped_rooms hok, _, rfl, ?_⟩
        rw [any_room]
        refine ite2 (fun c => ?_) (fun c => ?_)
        · have c2 : r ++ [z] ∉ nm ((t0, []) :: L) := by simpa using c
          refine ⟨_, rfl, .inl ⟨rfl, _, SqL.of hF5⟩, _, rfl, F, _, _, rfl, rfl, hF5, small1000 (by rw [rf_len, List.length_cons]; omega), L ++ [(t, r ++ [z])], _, _, _, rfl, ?_, ?_, ?_, ?_, ?_, hS5.upd nF, ?_, fun b o e n => ?_⟩
          · rw [upd_same]
            show some (HO.lst (rf ((t0, []) :: L) ++ [V.ref t])) = some (HO.lst (rf ((t0, []) :: L ++ [(t, r ++ [z])])))
            unfold rf
            rw [List.map_append] <;> rfl
          · refine rows_upd (D := F) (xs := rf ((t0, []) :: L)) (fun p hp => ?_) hF5
            rcases List.mem_cons.mp hp with hp | hp
            · exact hR5 p (by rw [hp]; exact List.mem_cons_self)
            rcases List.mem_append.mp hp with hp | hp
            · exact hR5 p (List.mem_cons_of_mem _ hp)
            · rw [List.mem_singleton.mp hp]
              exact h5
          · have e : nm (L ++ [(t, r ++ [z])]) = nm L ++ [r ++ [z]] := by unfold nm; rw [List.map_append] <;> rfl
            rw [e]
            refine good_snoc hG (fun h => c2 (List.mem_cons_of_mem _ h)) ?_ hr4
            rcases List.mem_cons.mp hr2 with h | h
            · exact .inl h
            · exact .inr h
          · rw [List.length_append, List.length_singleton]
            omega
          · intro u hu
            have e : nm ((t0, []) :: (L ++ [(t, r ++ [z])])) = nm ((t0, []) :: L) ++ [r ++ [z]] := by unfold nm; rw [List.map_cons, List.map_append] <;> rfl
            rw [e] at hu
            rcases List.mem_append.mp hu with hu | hu
            · exact hok u hu
            · rw [List.mem_singleton.mp hu]
              exact okr
          · rw [upd_ne nmsF]
            exact hn5
          · rw [upd_ne (ne_of_none e hF0)]
            exact k6 b o e n
        · exact ⟨L, _, _, _, rfl, hF5, hR5, hG, by omega, hok, hS5, hn5, k6⟩
      · have s56 : Same H4 (upd (upd H4 t (.tup [V.str z])) p (.tup (r.map V.str ++ [V.str z]))) := (same_new ht _).trans (same_new hp _)
        have k6 : ∀ b o, H b = some o → b ≠ st → (upd (upd H4 t (.tup [V.str z])) p (.tup (r.map V.str ++ [V.str z]))) b = some o := fun b o e n => s56 b o (k4 b o e n)
        have hF5 := s56 F _ hF4
        have hR5 := rows_same hR4 s56
        have hn5 := s56 nms _ hn4
        have hS5 := hS4.same s56
        clear hF4 hR4 hn4 hS4
        have h5 : upd (upd H4 t (.tup [V.str z])) p (.tup (r.map V.str ++ [V.str z])) p = some (.tup ((r ++ [z]).map V.str)) := by rw [upd_same, List.map_append] <;> rfl
        generalize upd (upd H4 t (.tup [V.str z])) p (.tup (r.map V.str ++ [V.str z])) = H7 at s56 k6 hF5 hR5 hn5 hS5 h5 ⊢
        have okr : RmOk (r ++ [z]) := fun y hy => by
          rcases List.mem_append.mp hy with hy | hy
          · exact hok _ hr2 y hy
          · rw [List.mem_singleton.mp hy]
            exact hz
        refine ⟨_, rfl, _, rfl, _, _, room_dp h5, hR5.list (SqL.of hF5), shaped_room okr, shaped_rooms hok, _, rfl, ?_⟩
        rw [any_room]
        refine ite2 (fun c => ?_) (fun c => ?_)
        · have c2 : r ++ [z] ∉ nm ((t0, []) :: L) := by simpa using c
          refine ⟨_, rfl, .inl ⟨rfl, _, SqL.of hF5⟩, _, rfl, F, _, _, rfl, rfl, hF5, small1000 (by rw [rf_len, List.length_cons]; omega), L ++ [(p, r ++ [z])], _, _, _, rfl, ?_, ?_, ?_, ?_, ?_, hS5.upd nF, ?_, fun b o e n => ?_⟩
          · rw [upd_same]
            show some (HO.lst (rf ((t0, []) :: L) ++ [V.ref p])) = some (HO.lst (rf ((t0, []) :: L ++ [(p, r ++ [z])])))
            unfold rf
            rw [List.map_append] <;> rfl
          · refine rows_upd (D := F) (xs := rf ((t0, []) :: L)) (fun p hp => ?_) hF5
            rcases List.mem_cons.mp hp with hp | hp
            · exact hR5 p (by rw [hp]; exact List.mem_cons_self)
            rcases List.mem_append.mp hp with hp | hp
            · exact hR5 p (List.mem_cons_of_mem _ hp)
            · rw [List.mem_singleton.mp hp]
              exact h5
          · have e : nm (L ++ [(p, r ++ [z])]) = nm L ++ [r ++ [z]] := by unfold nm; rw [List.map_append] <;> rfl
            rw [e]
            refine good_snoc hG (fun h => c2 (List.mem_cons_of_mem _ h)) ?_ hr4
            rcases List.mem_cons.mp hr2 with h | h
            · exact .inl h
            · exact .inr h
          · rw [List.length_append, List.length_singleton]
            omega
          · intro u hu
            have e : nm ((t0, []) :: (L ++ [(p, r ++ [z])])) = nm ((t0, []) :: L) ++ [r ++ [z]] := by unfold nm; rw [List.map_cons, List.map_append] <;> rfl
            rw [e] at hu
            rcases List.mem_append.mp hu with hu | hu
            · exact hok u hu
            · rw [List.mem_singleton.mp hu]
              exact okr
          · rw [upd_ne nmsF]
            exact hn5
          · rw [upd_ne (ne_of_none e hF0)]
            exact k6 b o e n
        · exact ⟨L, _, _, _, rfl, hF5, hR5, hG, by omega, hok, hS5, hn5, k6⟩
  · rintro σ H1 ⟨L, v4, v5, v6, rfl, hF1, hR1, hG, hlen, hok, hS1, hn1, k1⟩
    refine ⟨_, rfl, _, rfl, F, _, rfl, SqL.of hF1, fun p hp => ?_⟩
    have e : cutV (rf ((t0, []) :: L)) (some 1) none = rf L := by
      unfold cutV
      rw [show (some (1 : Int)) = some ((1 : Nat) : Int) from rfl, HT.sIx_nat, HT.sIx_none]
      have : min 1 (rf ((t0, ([] : Rm)) :: L)).length = 1 := by rw [rf_len, List.length_cons]; omega
      rw [this]
      show ((rf L).take ((rf ((t0, ([] : Rm)) :: L)).length - 1)) = rf L
      rw [rf_len, List.length_cons, Nat.add_sub_cancel, List.take_of_length_le (by rw [rf_len]; exact Nat.le_refl _)]
    have sp := same_new hp (.lst (rf L))
    rw [e]
    refine q p L _ ?_ upd_same (fun p' hp' => sp _ _ (hR1 p' (List.mem_cons_of_mem _ hp'))) hG (by omega) (fun r hr => hok r (List.mem_cons_of_mem _ hr)) (hS1.same sp) fun b o e n => sp b o (k1 b o e n)
    cases e : H p with
    | none => rfl
    | some o =>
      by_cases n : p = st
      · exact absurd n (hS1.new hp).1
      · rw [k1 p o e n] at hp
        cases hp
end
end Ho
end

section
set_option Elab.async false
set_option linter.all false
set_option maxRecDepth 100000
set_option maxHeartbeats 2000000
/-! K6a: what is a name, a row, a room. -/
namespace Ho
open PySem PySem.Spec PyProof.Rows L2
/-- constants of the modules -/
structure Co (mg : Str → Option Value) : Prop where
  letters : ∃ u, mg "LETTERS" = some u ∧ RelV (.str abc) u
  longest : ∃ u, mg "LONGEST" = some u ∧ RelV (.int 8) u
  most : ∃ u, mg "MOST_ROOMS" = some u ∧ RelV (.int 60) u
  deepest : ∃ u, mg "DEEPEST" = some u ∧ RelV (.int 4) u
def spTrue (ok : V → Hp → Prop) : Sp := fun vs H Q _ => ∃ x : V, vs = [x] ∧ ok x H ∧ ∀ H', Same H H' → Q (.bl true) H'
def spIsName : Sp := spTrue fun x _ => ∃ z, x = .str z ∧ nameOk z = true
def spIsRow : Sp := spTrue fun x H => ∃ a xs, x = .ref a ∧ H a = some (.lst xs)
def RoomIn (H : Hp) (t : Addr) (r : Rm) : Prop := H t = some (.tup (r.map V.str)) ∧ RmOk r ∧ r.length ≤ 4
def spIsRoom : Sp := spTrue fun x H => ∃ t r, x = .ref t ∧ RoomIn H t r
section
variable {P : Program} {w : World} {K : PySem.W.Frag} {mg : Str → Option Value} {base : Heap}
theorem scIsName : FnScope ["thing", "sign"] ["thing"] (defScope sIsName) := ⟨rfl, rfl, rfl, by decide +kernel, rfl, by decide +kernel, by decide +kernel⟩
theorem scIsRow : FnScope ["thing"] ["thing"] (defScope sIsRow) := ⟨rfl, rfl, rfl, by decide +kernel, rfl, by decide +kernel, by decide +kernel⟩
theorem scIsRoom : FnScope ["thing", "name"] ["thing"] (defScope sIsRoom) := ⟨rfl, rfl, rfl, by decide +kernel, rfl, by decide +kernel, by decide +kernel⟩
theorem ok_isName {f : Addr} {fd : FuncData} (D : Df K mg "is_name" sIsName ["thing"] f fd) (B : Bu mg) (C : Co mg) : FnOk P w K mg base CX0 1 f fd ["thing"] spIsName := by
  obtain ⟨u1, g1, r1⟩ := C.letters
  obtain ⟨u2, g2, r2⟩ := C.longest
  refine D.F.ok scIsName (fun vs H Q E h => ?_) (fun cdv A outer s H vs Q E hr h => ?_)
  · obtain ⟨x, rfl, _⟩ := h
    rfl
  obtain ⟨x, rfl, ⟨z, rfl, hz⟩, q⟩ := h
  obtain ⟨h1, h8, hc⟩ := nameOk_iff.mp hz
  have nd := scIsName.nd
  refine ⟨_, pss_one (ps_ret (pe_and (pe_callB call_isi (by rfl) B.isi (by decide +kernel) (pa_cons (pv 0) (pa_cons (pe_bltn (v := .ty "str") rfl B.str (by decide +kernel) rfl) pa_nil)))
    (pe_and (pe_chain op_le op_le pe_int (pe_callB call_len_str (by rfl) B.len PySem.boot_len (pa_cons (pv 0) pa_nil)) (pe_glob rfl g2 r2))
    (pe_one (pe_callB (cr_all rfl) (by rfl) B.all (by decide +kernel) (pa_cons (pe_lc (own := [("sign", 1)]) (g := gName 1) (tt := tYes) rfl nd (pi_str (pv 0)) (blkOk_by (own := [("sign", 1)]) (N := ["thing", "sign"]) (sc := defScope sIsName) (by decide +kernel))
      (fun _ _ _ _ _ => pg_name (i := 1) nd rfl (Or.inl rfl)) (fun _ _ _ _ _ => pts_nil) (fun _ _ _ _ _ => pe_cmpR op_in_sign (pv 1) (pe_glob rfl g1 r1) (by rfl))) pa_nil)))))), ?_⟩
  have hzz : z.length ≤ sizeLine := Nat.le_of_lt (small1000 (by omega))
  refine ⟨_, rfl, _, _, _, _, true, rfl, .ty "str", .base (.str z), kit_ty (by decide +kernel), _, rfl, iteT ?_⟩
  refine ⟨_, rfl, z, rfl, hzz, _, _, rfl, rfl, _, rfl, ?_⟩
  rw [decide_eq_true (show (1 : Int) ≤ ((z.length : Nat) : Int) by omega)]
  refine iteT ⟨_, _, rfl, rfl, _, rfl, ?_⟩
  rw [decide_eq_true (show ((z.length : Nat) : Int) ≤ 8 by omega)]
  refine iteT ⟨_, rfl, z, rfl, fun D hD => ?_⟩
  refine lc_it (walk_str (z := z)) (fun i H' => H' D = some (.lst ((List.replicate i true).map V.bl)) ∧ Same H H') ⟨upd_same, same_new hD _⟩ (fun _ _ _ _ => trivial) ?_ ?_
  · rintro j y H3 _ hj ⟨hD3, s3⟩ ⟨rfl, c, hcj, rfl⟩
    have hc' : c ∈ abc.cps.toList := hc c (List.mem_of_getElem? (i := j) (by rw [Array.getElem?_toList]; exact hcj))
    have hj8 : j < 8 := by
      have e : z.length = z.cps.size := rfl
      omega
    refine ⟨rfl, _, rfl, c, _, rfl, rfl, _, hD3, small1000 (by rw [List.length_map, List.length_replicate]; omega), ?_, fun b o e => by rw [upd_ne (ne_of_none e hD)]; exact s3 b o e⟩
    rw [upd_same, List.replicate_succ', List.map_append, decide_eq_true hc']
    rfl
  · rintro H3 ⟨hD3, s3⟩
    refine ⟨D, _, rfl, SqL.of hD3, ?_⟩
    rw [show (List.replicate z.cps.size true).all id = true by rw [List.all_eq_true]; intro x hx; exact List.eq_of_mem_replicate hx]
    exact q H3 s3
theorem all_rep (n : Nat) : (List.replicate n true).all id = true := by
  rw [List.all_eq_true]
  intro x hx
  exact List.eq_of_mem_replicate hx
theorem ok_isRow {f : Addr} {fd : FuncData} (D : Df K mg "is_row" sIsRow ["thing"] f fd) (B : Bu mg) : FnOk P w K mg base CX0 1 f fd ["thing"] spIsRow := by
  refine D.F.ok scIsRow (fun vs H Q E h => ?_) (fun cdv A outer s H vs Q E hr h => ?_)
  · obtain ⟨x, rfl, _⟩ := h
    rfl
  obtain ⟨x, rfl, ⟨a, xs, rfl, ha⟩, q⟩ := h
  refine ⟨_, pss_one (ps_ret (pe_callB call_isiT (by rfl) B.isi (by decide +kernel) (pa_cons (pv 0) (pa_cons (pe_tup (pa_cons (pe_bltn (v := .ty "list") rfl B.list (by decide +kernel) rfl) (pa_cons (pe_bltn (v := .ty "tuple") rfl B.tuple (by decide +kernel) rfl) pa_nil))) pa_nil)))), ?_⟩
  refine ⟨_, rfl, by show 2 ≤ sizeLine; decide, fun T hT => ⟨_, T, _, _, _, true, rfl, upd_same, .cons (.ty "list") (.cons (.ty "tuple") .nil), .base (.lst (same_new hT _ a _ ha)), kitAny_cons (b := true) (kit_ty (by decide +kernel)) (fun h => nomatch h) (fun _ => rfl), ?_⟩⟩
  exact q _ (same_new hT _)
theorem ok_isRoom {f g : Addr} {fd gd : FuncData} (D : Df K mg "is_room" sIsRoom ["thing"] f fd) (DN : Df K mg "is_name" sIsName ["thing"] g gd) (B : Bu mg) (C : Co mg) : FnOk P w K mg base CX0 2 f fd ["thing"] spIsRoom := by
  have GN : FnOk P w K mg base CX0 1 g gd ["thing"] spIsName := ok_isName DN B C
  obtain ⟨u2, g2, r2⟩ := C.deepest
  refine D.F.ok scIsRoom (fun vs H Q E h => ?_) (fun cdv A outer s H vs Q E hr h => ?_)
  · obtain ⟨x, rfl, _⟩ := h
    rfl
  obtain ⟨x, rfl, ⟨t, r, rfl, ht, hok, h4⟩, q⟩ := h
  have nd := scIsRoom.nd
  refine ⟨_, pss_one (ps_ret (pe_and (pe_callB call_isi (by rfl) B.isi (by decide +kernel) (pa_cons (pv 0) (pa_cons (pe_bltn (v := .ty "tuple") rfl B.tuple (by decide +kernel) rfl) pa_nil)))
    (pe_and (pe_cmpR op_le (pe_callB call_len_seq (by rfl) B.len PySem.boot_len (pa_cons (pv 0) pa_nil)) (pe_glob rfl g2 r2) (nomark _))
    (pe_one (pe_callB (cr_all rfl) (by rfl) B.all (by decide +kernel) (pa_cons (pe_lc (own := [("name", 1)]) (g := gName 1) (tt := tYes) rfl nd (pi_tup (pv 0)) (blkOk_by (own := [("name", 1)]) (N := ["thing", "name"]) (sc := defScope sIsRoom) (by decide +kernel))
      (fun _ _ _ _ _ => pg_name (i := 1) nd rfl (Or.inl rfl)) (fun _ _ _ _ _ => pts_nil) (fun _ _ _ _ _ => pe_call GN hr rfl DN.m DN.F.kp DN.b .nil pass0 (pa_cons (pv 1) pa_nil))) pa_nil)))))), ?_⟩
  refine ⟨_, rfl, _, _, _, _, true, rfl, .ty "tuple", .base (.tup ht), kit_ty (by decide +kernel), _, rfl, iteT ?_⟩
  refine ⟨_, rfl, t, _, rfl, .inr (SqT.of ht), _, _, rfl, rfl, _, rfl, ?_⟩
  rw [decide_eq_true (show (((r.map V.str).length : Nat) : Int) ≤ 4 by rw [List.length_map]; omega)]
  refine iteT ⟨_, rfl, t, rfl, ⟨_, SqT.of ht⟩, fun D hD => ?_⟩
  refine lc_tup (K := K) (a := t) (xs := r.map V.str) (fun i H' => H' D = some (.lst ((List.replicate i true).map V.bl)) ∧ Same H H') ⟨upd_same, same_new hD _⟩ (fun i H' _ h => SqT.of (h.2 _ _ ht)) ?_ ?_
  · rintro j y H3 hy ⟨hD3, s3⟩
    obtain ⟨z, hz, rfl⟩ : ∃ z, r[j]? = some z ∧ y = .str z := by
      rw [List.getElem?_map] at hy
      cases e : r[j]? with
      | none => rw [e] at hy; cases hy
      | some z => rw [e] at hy; exact ⟨z, rfl, (Option.some.inj hy).symm⟩
    have hj := (List.getElem?_eq_some_iff.mp hz).1
    refine ⟨rfl, _, rfl, _, rfl, ⟨z, rfl, hok z (List.mem_of_getElem? hz)⟩, fun H4 s4 => ?_⟩
    refine ⟨_, s4 _ _ hD3, small1000 (by rw [List.length_map, List.length_replicate]; omega), ?_, fun b o e => by rw [upd_ne (ne_of_none e hD)]; exact s4 b o (s3 b o e)⟩
    rw [upd_same, List.replicate_succ', List.map_append]
    rfl
  · rintro H3 ⟨hD3, s3⟩
    refine ⟨D, _, rfl, SqL.of hD3, ?_⟩
    rw [all_rep]
    exact q H3 s3
end
/-! ### slices and sums of rooms -/
theorem sIx_neg1 (n d : Nat) : HT.sIx n d (some (-1)) = ((-1 : Int) + (n : Int)).toNat := by
  show (if (-1 : Int) < 0 then ((-1 : Int) + (n : Int)).toNat else min (-1 : Int).toNat n) = _
  rw [if_pos (by decide)]
theorem slA_init {K : PySem.W.Frag} {H : Hp} {t : Addr} {r : Rm} {Q : VK} (h : H t = some (.tup (r.map V.str))) (k : ∀ t' H', Same H H' → H' t' = some (.tup (r.dropLast.map V.str)) → Q (.ref t') H') : rSlA K (.ref t) none (some (-1)) H Q := by
  refine ⟨t, _, rfl, SqT.of h, fun e => ?_, fun e p hp => k p _ (same_new hp _) ?_⟩
  · have e2 : (r.map V.str).length = 0 := by
      have h2 := e.2
      show _ = _
      have : HT.sIx (r.map V.str).length (r.map V.str).length (some (-1)) = ((-1 : Int) + ((r.map V.str).length : Int)).toNat := sIx_neg1 _ _
      omega
    refine k t H (Same.refl H) ?_
    have e3 : r = [] := List.eq_nil_of_length_eq_zero (by rw [List.length_map] at e2; exact e2)
    subst e3
    exact h
  · rw [upd_same]
    unfold cutV
    have e1 : HT.sIx (r.map V.str).length (r.map V.str).length (some (-1)) = ((-1 : Int) + ((r.map V.str).length : Int)).toNat := sIx_neg1 _ _
    rw [e1, HT.sIx_none, List.drop_zero, List.map_dropLast, List.dropLast_eq_take]
    rw [show ((-1 : Int) + ((r.map V.str).length : Int)).toNat - 0 = (r.map V.str).length - 1 by omega]
theorem slA_take {K : PySem.W.Frag} {H : Hp} {t : Addr} {r : Rm} {Q : VK} (n : Nat) (h : H t = some (.tup (r.map V.str))) (k : ∀ t' H', Same H H' → H' t' = some (.tup ((r.take n).map V.str)) → Q (.ref t') H') : rSlA K (.ref t) none (some (n : Int)) H Q := by
  refine ⟨t, _, rfl, SqT.of h, fun e => ?_, fun e p hp => k p _ (same_new hp _) ?_⟩
  · rw [HT.sIx_nat, List.length_map] at e
    refine k t H (Same.refl H) ?_
    rw [List.take_of_length_le (by omega)]
    exact h
  · rw [upd_same]
    unfold cutV
    rw [HT.sIx_nat, HT.sIx_none, List.drop_zero, List.map_take, Nat.sub_zero]
    by_cases q : n ≤ (r.map V.str).length
    · rw [Nat.min_eq_left q]
    · rw [Nat.min_eq_right (by omega), List.take_of_length_le (by omega), List.take_of_length_le (by omega)]
theorem slA_drop {K : PySem.W.Frag} {H : Hp} {t : Addr} {r : Rm} {Q : VK} (n : Nat) (h : H t = some (.tup (r.map V.str))) (k : ∀ t' H', Same H H' → H' t' = some (.tup ((r.drop n).map V.str)) → Q (.ref t') H') : rSlA K (.ref t) (some (n : Int)) none H Q := by
  refine ⟨t, _, rfl, SqT.of h, fun e => ?_, fun e p hp => k p _ (same_new hp _) ?_⟩
  · rw [HT.sIx_nat, List.length_map] at e
    refine k t H (Same.refl H) ?_
    by_cases q : n = 0
    · subst q
      exact h
    · have e3 : r = [] := List.eq_nil_of_length_eq_zero (by omega)
      subst e3
      rw [List.drop_nil]
      exact h
  · rw [upd_same]
    unfold cutV
    rw [HT.sIx_nat, HT.sIx_none, List.map_drop]
    by_cases q : n ≤ (r.map V.str).length
    · rw [Nat.min_eq_left q, List.take_of_length_le (by rw [List.length_drop]; omega)]
    · rw [Nat.min_eq_right (by omega), List.drop_eq_nil_of_le (by omega), List.drop_eq_nil_of_le (by omega), List.take_nil]
theorem catA {K : PySem.W.Frag} {H : Hp} {a b : Addr} {r u : Rm} {Q : VK} (ha : H a = some (.tup (r.map V.str))) (hb : H b = some (.tup (u.map V.str))) (hz : r.length + u.length ≤ 1000) (k : ∀ t' H', Same H H' → H' t' = some (.tup ((r ++ u).map V.str)) → Q (.ref t') H') : rCatA K (.ref a) (.ref b) H Q := by
  refine ⟨a, b, _, _, rfl, rfl, SqT.of ha, SqT.of hb, Nat.le_of_lt (small1000 (by rw [List.length_map, List.length_map]; exact hz)), fun e => ?_, fun _ e => ?_, fun _ _ p hp => k p _ (same_new hp _) ?_⟩
  · refine k b H (Same.refl H) ?_
    rw [List.map_append, e]
    exact hb
  · refine k a H (Same.refl H) ?_
    rw [List.map_append, e, List.append_nil]
    exact ha
  · rw [upd_same, List.map_append]
end Ho
end

section
set_option Elab.async false
set_option linter.all false
set_option maxRecDepth 100000
set_option maxHeartbeats 2000000
/-! K6b: what are rooms; the making of Rooms. -/
namespace Ho
open PySem PySem.Spec PyProof.Rows L2
/-- a list of rooms that can be told of -/
def Told (H : Hp) (a : Addr) (L : Rw) : Prop := H a = some (.lst (rf L)) ∧ RowsIn H L ∧ Good (nm L) ∧ L.length ≤ 60 ∧ ∀ r ∈ nm L, RmOk r
theorem Told.same {H H' : Hp} {a : Addr} {L : Rw} (h : Told H a L) (s : Same H H') : Told H' a L := ⟨s _ _ h.1, rows_same h.2.1 s, h.2.2⟩
def spAreRooms : Sp := spTrue fun x H => ∃ a L, x = .ref a ∧ Told H a L
theorem Told.room {H : Hp} {a : Addr} {L : Rw} (h : Told H a L) {p : Addr × Rm} (hp : p ∈ L) : RoomIn H p.1 p.2 :=
  ⟨h.2.1 p hp, h.2.2.2.2 _ (List.mem_map.mpr ⟨p, hp, rfl⟩), h.2.2.1.deep _ (List.mem_map.mpr ⟨p, hp, rfl⟩)⟩
theorem len_mem {B : Type} {l m : List B} (h1 : l.Nodup) (h2 : m.Nodup) (h : ∀ x, x ∈ l ↔ x ∈ m) : l.length = m.length :=
  ((List.perm_ext_iff_of_nodup h1 h2).mpr h).length_eq
section
variable {P : Program} {w : World} {K : PySem.W.Frag} {mg : Str → Option Value} {base : Heap}
theorem scAreRooms : FnScope ["thing", "there", "room"] ["thing"] (defScope sAreRooms) := ⟨rfl, rfl, rfl, by decide +kernel, rfl, by decide +kernel, by decide +kernel⟩
theorem ok_areRooms {f g1 g2 : Addr} {fd gd1 gd2 : FuncData} (D : Df K mg "are_rooms" sAreRooms ["thing"] f fd) (DW : Df K mg "is_row" sIsRow ["thing"] g1 gd1) (DR : Df K mg "is_room" sIsRoom ["thing"] g2 gd2) (GR : FnOk P w K mg base CX0 2 g2 gd2 ["thing"] spIsRoom) (B : Bu mg) (C : Co mg) : FnOk P w K mg base CX0 3 f fd ["thing"] spAreRooms := by
  have GW : FnOk P w K mg base CX0 1 g1 gd1 ["thing"] spIsRow := ok_isRow DW B
  obtain ⟨u2, h2, r2⟩ := C.most
  refine D.F.ok scAreRooms (fun vs H Q E h => ?_) (fun cdv A outer s H vs Q E hr h => ?_)
  · obtain ⟨x, rfl, _⟩ := h
    rfl
  obtain ⟨x, rfl, ⟨a, L, rfl, T⟩, q⟩ := h
  have nd := scAreRooms.nd
  have hr1 : Room 1 _ := hr.mono (by decide)
  have hu := hu_of hr
  refine ⟨_, pss_cons (ps_if (PW.pt (pw_or (pt_not (pt_val (pe_call GW hr1 rfl DW.m DW.F.kp DW.b .nil pass0 (pa_cons (pv 0) pa_nil)))) (pw_or (pt_cmpR op_gt (pe_callB call_len_seq (by rfl) B.len PySem.boot_len (pa_cons (pv 0) pa_nil)) (pe_glob rfl h2 r2) (nomark _))
        (pw_or1 (pt_not (pt_val (pe_callB (cr_all rfl) (by rfl) B.all (by decide +kernel) (pa_cons (pe_lc (own := [("room", 2)]) (g := gName 2) (tt := tYes) rfl nd (pi_list (pv 0)) (blkOk_by (own := [("room", 2)]) (N := ["thing", "there", "room"]) (sc := defScope sAreRooms) (by decide +kernel))
          (fun _ _ _ _ _ => pg_name (i := 2) nd rfl (Or.inl rfl)) (fun _ _ _ _ _ => pts_nil) (fun _ _ _ _ _ => pe_call GR hr rfl DR.m DR.F.kp DR.b .nil pass0 (pa_cons (pv 2) pa_nil))) pa_nil)))))))) pss_never pss_nil)
    (pss_cons (ps_set (i := 1) nd rfl (Or.inr rfl) (pe_dcT (own := [("room", 2)]) (g := gName 2) (tt := tYes) hr.units0 rfl nd (pi_list (pe_op op_cat (pe_callTy call_list_of (by rfl) B.list (by decide +kernel) (pa_cons (pv 0) pa_nil)) (pe_lst (pa_cons (pe_tup pa_nil) pa_nil)))) (blkOk_by (own := [("room", 2)]) (N := ["thing", "there", "room"]) (sc := defScope sAreRooms) (by decide +kernel))
        (fun _ _ _ _ _ => pg_name (i := 2) nd rfl (Or.inl rfl)) (fun _ _ _ _ _ => pts_nil) (fun _ _ _ _ _ => pv 2) (fun _ _ _ _ _ => pe_bl)))
    (pss_one (ps_ret (pe_and (pe_cmpR op_eq (pe_callB (r := rLenSet P w) cr_lenSet (by rfl) B.len PySem.boot_len (pa_cons (pe_callTy (r := rSetR K P w) (cr_setR rfl hr.units) (by rfl) B.set (by decide +kernel) (pa_cons (pv 0) pa_nil)) pa_nil)) (pe_callB call_len_seq (by rfl) B.len PySem.boot_len (pa_cons (pv 0) pa_nil)) (nomark _))
      (pe_one (pe_callB (cr_all rfl) (by rfl) B.all (by decide +kernel) (pa_cons (pe_lc (own := [("room", 2)]) (g := gName 2) (tt := tYes) rfl nd (pi_list (pv 0)) (blkOk_by (own := [("room", 2)]) (N := ["thing", "there", "room"]) (sc := defScope sAreRooms) (by decide +kernel))
          (fun _ _ _ _ _ => pg_name (i := 2) nd rfl (Or.inl rfl)) (fun _ _ _ _ _ => pts_nil) (fun _ _ _ _ _ => pe_cmp (pc_din hu (pe_slice (r := rSlA K) sl_tupA (pv 2) po_none (po_some (pe_un un_neg pe_int))) (pv 1)) rfl)) pa_nil))))))), ?_⟩
  have hL : (rf L).length = L.length := rf_len L
  have h60 := T.2.2.2.1
  refine ⟨_, rfl, ⟨_, rfl, ⟨a, _, rfl, T.1⟩, fun H1 s1 => ⟨true, rfl, iteF ?_⟩⟩⟩
  have T1 := T.same s1
  refine ⟨_, rfl, a, _, rfl, .inl (SqL.of T1.1), _, _, rfl, rfl, _, rfl, ?_⟩
  rw [decide_eq_false (show ¬ ((60 : Int) < (((rf L).length : Nat) : Int)) by omega)]
  refine iteF ⟨_, rfl, a, rfl, ⟨_, SqL.of T1.1⟩, fun D hD => ?_⟩
  refine lc_list (K := K) (a := a) (xs := rf L) (fun i H' => H' D = some (.lst ((List.replicate i true).map V.bl)) ∧ Same H1 H') ⟨upd_same, same_new hD _⟩ (fun i H' _ h => SqL.of (h.2 _ _ T1.1)) ?_ ?_
  · rintro j y H3 hy ⟨hD3, s3⟩
    obtain ⟨p, hp, rfl⟩ := rf_get hy
    have hj := (List.getElem?_eq_some_iff.mp hp).1
    refine ⟨rfl, _, rfl, _, rfl, ⟨p.1, p.2, rfl, (T1.same s3).room (List.mem_of_getElem? hp)⟩, fun H4 s4 => ?_⟩
    refine ⟨_, s4 _ _ hD3, small1000 (by rw [List.length_map, List.length_replicate]; omega), ?_, fun b o e => by rw [upd_ne (ne_of_none e hD)]; exact s4 b o (s3 b o e)⟩
    rw [upd_same, List.replicate_succ', List.map_append]
    rfl
  rintro H2 ⟨hD2, s2⟩
  refine ⟨D, _, rfl, SqL.of hD2, ?_⟩
  rw [all_rep]
  refine ⟨true, rfl, iteF ?_⟩
  have T2 := T1.same s2
  clear hD2
  -- there
  refine ⟨_, rfl, a, _, rfl, .inl (SqL.of T2.1), fun l hl => ⟨Nat.zero_le _, fun t0 ht0 => ⟨by show 1 ≤ sizeLine; decide, fun l2 hl2 => ?_⟩⟩⟩
  have nlt : l ≠ t0 := ne_of_none upd_same ht0
  have nl2 : l ≠ l2 := by
    refine ne_of_none (H := upd (upd H2 l (.lst (rf L))) t0 (.tup [])) (by rw [upd_ne nlt]; exact upd_same) hl2
  have nt2 : t0 ≠ l2 := ne_of_none upd_same hl2
  have s25 : Same H2 (upd (upd (upd H2 l (.lst (rf L))) t0 (.tup [])) l2 (.lst [.ref t0])) := ((same_new hl _).trans (same_new ht0 _)).trans (same_new hl2 _)
  have e1 : upd (upd (upd H2 l (.lst (rf L))) t0 (.tup [])) l2 (.lst [.ref t0]) l = some (.lst (rf L)) := by rw [upd_ne nl2, upd_ne nlt]; exact upd_same
  have e2 : upd (upd (upd H2 l (.lst (rf L))) t0 (.tup [])) l2 (.lst [.ref t0]) l2 = some (.lst [.ref t0]) := upd_same
  have e3 : upd (upd (upd H2 l (.lst (rf L))) t0 (.tup [])) l2 (.lst [.ref t0]) t0 = some (.tup []) := by rw [upd_ne nt2]; exact upd_same
  generalize upd (upd (upd H2 l (.lst (rf L))) t0 (.tup [])) l2 (.lst [.ref t0]) = H5 at s25 e1 e2 e3 ⊢
  refine ⟨l, l2, _, _, rfl, rfl, e1, e2, Nat.le_of_lt (small1000 (by rw [hL, List.length_singleton]; omega)), fun c hc => ?_⟩
  have s56 : Same H5 (upd H5 c (.lst (rf L ++ [.ref t0]))) := same_new hc _
  have e6 : upd H5 c (.lst (rf L ++ [.ref t0])) c = some (.lst (rf (L ++ [(t0, [])]))) := by rw [upd_same]; unfold rf; rw [List.map_append] <;> rfl
  have T6 := (T2.same s25).same s56
  have e7 := s56 _ _ e3
  generalize upd H5 c (.lst (rf L ++ [.ref t0])) = H6 at s56 e6 T6 e7 ⊢
  have RM : RowsIn H6 (L ++ [(t0, [])]) := fun p hp => by
    rcases List.mem_append.mp hp with hp | hp
    · exact T6.2.1 p hp
    · rw [List.mem_singleton.mp hp]
      exact e7
  have lM : (L ++ [(t0, ([] : Rm))]).length ≤ 61 := by rw [List.length_append, List.length_singleton]; omega
  have mM : ∀ r, (r = [] ∨ r ∈ nm L) → ∃ p ∈ L ++ [(t0, ([] : Rm))], p.2 = r := fun r hr => by
    rcases hr with rfl | hr
    · exact ⟨(t0, []), by simp, rfl⟩
    · obtain ⟨p, hp, e⟩ := List.mem_map.mp hr
      exact ⟨p, List.mem_append_left _ hp, e⟩
  generalize L ++ [(t0, ([] : Rm))] = M at e6 RM lM mM
  refine ⟨c, rfl, ⟨_, SqL.of e6⟩, fun D2 hD2 => ?_⟩
  refine dcT_list (K := K) (a := c) (xs := rf M) (fun j H' => ∃ kvs, H' D2 = some (.dT kvs) ∧ kvs.length ≤ j ∧ (∀ p ∈ M.take j, valV kvs (ro p.2) = some (.bl true)) ∧ Same H6 H') ?_ (fun j H' _ ⟨_, _, _, _, s⟩ => SqL.of (s _ _ e6)) ?_ ?_
  · exact ⟨[], upd_same, Nat.le_refl _, (fun p hp => by simp at hp), same_new hD2 _⟩
  · rintro j y H7 hy ⟨kvs, hk, hkl, hkv, s7⟩
    obtain ⟨p, hp, rfl⟩ := rf_get hy
    have hj := (List.getElem?_eq_some_iff.mp hp).1
    have hpM := List.mem_of_getElem? hp
    refine ⟨rfl, _, rfl, kvs, ro p.2, p.1, rfl, ?_, hk, small1000 (by omega), _, upd_same, ?_, fun u hu => ?_, fun b o e => by rw [upd_ne (ne_of_none e hD2)]; exact s7 b o e⟩
    · rw [ro_kV]
      exact s7 _ _ (RM p hpM)
    · have := length_putK kvs (ro p.2) (V.bl true)
      omega
    · rw [valV_put]
      by_cases e : ro u.2 = ro p.2
      · rw [if_pos e]
      · rw [if_neg e]
        rw [List.take_add_one, hp] at hu
        rcases List.mem_append.mp hu with hu | hu
        · exact hkv u hu
        · have : u = p := by simpa using hu
          rw [this] at e
          exact absurd rfl e
  rintro H7 ⟨kvs, hk, hkl, hkv, s7⟩
  rw [rf_len] at hkv
  rw [List.take_of_length_le (Nat.le_refl _)] at hkv
  have T7 := T6.same s7
  have s07 : Same H H7 := (((s1.trans s2).trans s25).trans s56).trans s7
  have all : ∀ r, (r = [] ∨ r ∈ nm L) → valV kvs (ro r) = some (.bl true) := fun r hr => by
    obtain ⟨p, hp, e⟩ := mM r hr
    rw [← e]
    exact hkv p hp
  clear hkv hkl e6 RM lM mM e7 hD2 hD
  -- the answer
  refine ⟨_, rfl, a, L, nm L, rfl, SqL.of T7.1, T7.2.1, by unfold nm; rw [List.length_map]; omega, fun p hp => List.mem_map.mpr ⟨p, hp, rfl⟩, fun b L' hb hsub hcov hnd => ?_⟩
  have s8 : Same H7 (upd H7 b (SetO P w b (kys L'))) := same_new hb _
  refine ⟨b, L', rfl, upd_same, fun p hp => s8 _ _ (T7.2.1 p (hsub p hp)), _, rfl, a, _, rfl, .inl (SqL.of (s8 _ _ T7.1)), rfl, _, rfl, ?_⟩
  have el : L'.length = (nm L).length := by
    rw [← List.length_map (f := (·.2)) (as := L')]
    refine len_mem hnd T7.2.2.1.nd fun x => ⟨fun hx => ?_, fun hx => ?_⟩
    · obtain ⟨p, hp, e⟩ := List.mem_map.mp hx
      exact List.mem_map.mpr ⟨p, hsub p hp, e⟩
    · obtain ⟨p, hp, e⟩ := List.mem_map.mp hx
      rw [← e]
      exact hcov p hp
  have ei : V.int ((L'.length : Nat) : Int) = V.int (((rf L).length : Nat) : Int) := by
    rw [hL, el]
    unfold nm
    rw [List.length_map]
  rw [decide_eq_true ei]
  have T8 := T7.same s8
  have hk8 := s8 _ _ hk
  have s08 := s07.trans s8
  generalize upd H7 b (SetO P w b (kys L')) = H8 at s8 T8 hk8 s08 ⊢
  refine iteT ⟨_, rfl, a, rfl, ⟨_, SqL.of T8.1⟩, fun D hD => ?_⟩
  refine lc_list (K := K) (a := a) (xs := rf L) (fun i H' => H' D = some (.lst ((List.replicate i true).map V.bl)) ∧ Same H8 H') ⟨upd_same, same_new hD _⟩ (fun i H' _ h => SqL.of (h.2 _ _ T8.1)) ?_ ?_
  · rintro j y H3 hy ⟨hD3, s3⟩
    obtain ⟨p, hp, rfl⟩ := rf_get hy
    have hj := (List.getElem?_eq_some_iff.mp hp).1
    have hpL := List.mem_of_getElem? hp
    have T3 := T8.same s3
    refine ⟨rfl, _, rfl, _, rfl, _, rfl, slA_init (T3.2.1 p hpL) fun t H4 s4 ht => ⟨_, rfl, D2, _, rfl, DGet.t (k := ro p.2.dropLast) (s4 _ _ (s3 _ _ hk8)) (by rw [ro_kV]; exact ht), _, s4 _ _ hD3, small1000 (by rw [List.length_map, List.length_replicate]; omega), ?_, fun b o e => by rw [upd_ne (ne_of_none e hD)]; exact s4 b o (s3 b o e)⟩⟩
    have up : p.2.dropLast = [] ∨ p.2.dropLast ∈ nm L := by
      rcases T8.2.2.1.up p.2 (List.mem_map.mpr ⟨p, hpL, rfl⟩) with h | h
      · exact .inr h
      · exact .inl h
    rw [upd_same, List.replicate_succ', List.map_append, all _ up]
    rfl
  · rintro H3 ⟨hD3, s3⟩
    refine ⟨D, _, rfl, SqL.of hD3, ?_⟩
    rw [all_rep]
    exact q H3 (s08.trans s3)
end
end Ho
end

section
set_option Elab.async false
set_option linter.all false
set_option maxRecDepth 100000
set_option maxHeartbeats 2000000
/-! K6c: the making of Rooms. -/
namespace Ho
open PySem PySem.Spec PyProof.Rows L2
/-- facts of the class -/
structure Kl (K : PySem.W.Frag) (mg : Str → Option Value) (C : Addr) : Prop where
  cl : Cls K C
  nk : NoAttr K C "known"
  mg : mg "Rooms" = some (.ref C)
def kf (d : Addr) : List (Str × V) := putF "known" (.ref d) []
theorem kf_known (d : Addr) : (kf d).lookup ("known" : Str) = some (.ref d) := by
  unfold kf
  rw [lookup_putF, if_pos rfl]
theorem kf_no (d : Addr) {m : Str} (h : ¬ m = "known") : (kf d).lookup m = none := by
  unfold kf
  rw [lookup_putF, if_neg h]
  all_goals rfl
def kvr (S : List Rm) : List (List L2.Key × V) := S.map fun r => (ro r, V.bl true)
theorem kvr_get : ∀ {S : List Rm} {r : Rm}, r ∈ S → valV (kvr S) (ro r) = some (.bl true)
  | [], _, h => nomatch h
  | q :: S, r, h => by
    unfold valV kvr
    rw [List.map_cons, List.find?_cons]
    by_cases e : ro q = ro r
    · rw [decide_eq_true e] <;> rfl
    · rw [decide_eq_false e]
      have h2 : r ∈ S := by
        rcases List.mem_cons.mp h with h | h
        · rw [h] at e
          exact absurd rfl e
        · exact h
      exact kvr_get h2
theorem kvr_free : ∀ {S : List Rm} {r : Rm}, r ∉ S → valV (kvr S) (ro r) = none
  | [], _, _ => rfl
  | q :: S, r, h => by
    unfold valV kvr
    rw [List.map_cons, List.find?_cons]
    have e : ¬ ro q = ro r := fun e => h (by rw [ro_inj e]; exact List.mem_cons_self)
    rw [decide_eq_false e]
    exact kvr_free fun m => h (List.mem_cons_of_mem _ m)
theorem kvr_put {S : List Rm} {r : Rm} (h : r ∉ S) : putK (kvr S) (ro r) (.bl true) = kvr (S ++ [r]) := by
  rw [putK_new _ (kvr_free h)]
  unfold kvr
  rw [List.map_append] <;> rfl
def spInit (C : Addr) : Sp := fun vs H Q _ => ∃ (p dx a : Addr) (L : Rw), vs = [.ref p, .ref a] ∧ H p = some (.ins C dx []) ∧ Told H a L ∧ ∀ (d : Addr) (S : List Rm) (H' : Hp), H d = none → H' p = some (.ins C dx (kf d)) → H' d = some (.dT (kvr S)) → Ris rmLt S → (∀ q, q ∈ S ↔ q = [] ∨ q ∈ nm L) → (∀ b o, H b = some o → b ≠ p → H' b = some o) → Q .non H'
section
variable {P : Program} {w : World} {K : PySem.W.Frag} {mg : Str → Option Value} {base : Heap}
theorem scInit : FnScope ["self", "rooms", "room"] ["self", "rooms"] (defScope sInit) := ⟨rfl, rfl, rfl, by decide +kernel, rfl, by decide +kernel, by decide +kernel⟩
theorem ok_init {f g : Addr} {fd gd : FuncData} {C : Addr} {v0 : V} (F : FunD K "__init__" "Rooms.__init__" (defArgs sInit) (defBody sInit) (defScope sInit) [v0] [] f fd) (DA : Df K mg "are_rooms" sAreRooms ["thing"] g gd) (GA : FnOk P w K mg base CX0 3 g gd ["thing"] spAreRooms) (T : Kl K mg C) (B : Bu mg) : FnOk P w K mg base CX0 4 f fd ["self", "rooms"] (spInit C) := by
  refine F.ok scInit (fun vs H Q E h => ?_) (fun cdv A outer s H vs Q E hr h => ?_)
  · obtain ⟨p, dx, a, L, rfl, _⟩ := h
    rfl
  obtain ⟨p, dx, a, L, rfl, hp, TL, q⟩ := h
  have nd := scInit.nd
  have hu := hu_of hr
  refine ⟨_, pss_cons (ps_if (pt_not (pt_val (pe_call GA hr rfl DA.m DA.F.kp DA.b .nil pass0 (pa_cons (pv 1) pa_nil)))) pss_never pss_nil)
    (pss_one (ps_fld (pv 0) (pe_dcT (own := [("room", 2)]) (g := gName 2) (tt := tYes) hr.units0 rfl nd (pi_list (pe_callB (r := rSortedSet P w) (cr_sortedSet rfl hr.units) (by rfl) B.sorted (by decide +kernel) (pa_cons (pe_op (r := rOrSet P w) (op_orSet hr.units) (pe_callTy (r := rSetR K P w) (cr_setR rfl hr.units) (by rfl) B.set (by decide +kernel) (pa_cons (pv 1) pa_nil)) (pe_callTy (r := rSetR K P w) (cr_setR rfl hr.units) (by rfl) B.set (by decide +kernel) (pa_cons (pe_lst (pa_cons (pe_tup pa_nil) pa_nil)) pa_nil))) pa_nil))) (blkOk_by (own := [("room", 2)]) (N := ["self", "rooms", "room"]) (sc := defScope sInit) (by decide +kernel))
        (fun _ _ _ _ _ => pg_name (i := 2) nd rfl (Or.inl rfl)) (fun _ _ _ _ _ => pts_nil) (fun _ _ _ _ _ => pv 2) (fun _ _ _ _ _ => pe_bl)) rfl)), ?_⟩
  refine ⟨_, rfl, _, rfl, ⟨a, L, rfl, TL⟩, fun H1 s1 => ⟨true, rfl, iteF ?_⟩⟩
  have T1 := TL.same s1
  have h60 := TL.2.2.2.1
  refine ⟨_, rfl, a, L, nm L, rfl, SqL.of T1.1, T1.2.1, by unfold nm; rw [List.length_map]; omega, fun p hp => List.mem_map.mpr ⟨p, hp, rfl⟩, fun b L' hb hsub hcov hnd => ?_⟩
  have s2 : Same H1 (upd H1 b (SetO P w b (kys L'))) := same_new hb _
  have hb2 : upd H1 b (SetO P w b (kys L')) b = some (SetO P w b (kys L')) := upd_same
  have el : L'.length = (nm L).length := by
    rw [← List.length_map (f := (·.2)) (as := L')]
    refine len_mem hnd T1.2.2.1.nd fun x => ⟨fun hx => ?_, fun hx => ?_⟩
    · obtain ⟨p, hp, e⟩ := List.mem_map.mp hx
      exact List.mem_map.mpr ⟨p, hsub p hp, e⟩
    · obtain ⟨p, hp, e⟩ := List.mem_map.mp hx
      rw [← e]
      exact hcov p hp
  have hl60 : L'.length ≤ 60 := by rw [el]; unfold nm; rw [List.length_map]; exact h60
  have memL : ∀ r, r ∈ L'.map (·.2) ↔ r ∈ nm L := fun r => by
    constructor
    · intro hx
      obtain ⟨p, hp, e⟩ := List.mem_map.mp hx
      exact List.mem_map.mpr ⟨p, hsub p hp, e⟩
    · intro hx
      obtain ⟨p, hp, e⟩ := List.mem_map.mp hx
      rw [← e]
      exact hcov p hp
  have R2 : RowsIn (upd H1 b (SetO P w b (kys L'))) L' := fun p hp => s2 _ _ (T1.2.1 p (hsub p hp))
  generalize upd H1 b (SetO P w b (kys L')) = H2 at s2 hb2 R2 ⊢
  refine ⟨by show 0 ≤ sizeLine; decide, fun t0 ht0 => ⟨by show 1 ≤ sizeLine; decide, fun l2 hl2 => ?_⟩⟩
  have nt2 : t0 ≠ l2 := ne_of_none upd_same hl2
  have s24 : Same H2 (upd (upd H2 t0 (.tup [])) l2 (.lst [.ref t0])) := (same_new ht0 _).trans (same_new hl2 _)
  have e2 : upd (upd H2 t0 (.tup [])) l2 (.lst [.ref t0]) l2 = some (.lst ([(t0, ([] : Rm))].map fun p => V.ref p.1)) := upd_same
  have e3 : RowsIn (upd (upd H2 t0 (.tup [])) l2 (.lst [.ref t0])) [(t0, ([] : Rm))] := fun p hp => by
    rw [List.mem_singleton.mp hp, upd_ne nt2]
    exact upd_same
  generalize upd (upd H2 t0 (.tup [])) l2 (.lst [.ref t0]) = H4 at s24 e2 e3 ⊢
  refine ⟨l2, [(t0, [])], [[]], rfl, SqL.of e2, e3, by show 1 < 63; decide, fun p hp => by rw [List.mem_singleton.mp hp]; exact List.mem_singleton.mpr rfl, fun c L2 hc hsub2 hcov2 hnd2 => ?_⟩
  have eL2 : L2 = [(t0, [])] := by
    have l1 : (L2.map (·.2)).length = [([] : Rm)].length := by
      refine len_mem hnd2 (by simp) fun x => ⟨fun hx => ?_, fun hx => ?_⟩
      · obtain ⟨p, hp, e⟩ := List.mem_map.mp hx
        rw [← e, List.mem_singleton.mp (hsub2 p hp)]
        exact List.mem_singleton.mpr rfl
      · rw [List.mem_singleton.mp hx]
        exact hcov2 (t0, []) (List.mem_singleton.mpr rfl)
    match L2, l1, hsub2 with
    | [p], _, hs => rw [List.mem_singleton.mp (hs p List.mem_cons_self)]
  subst eL2
  have s45 : Same H4 (upd H4 c (SetO P w c (kys [(t0, [])]))) := same_new hc _
  have s25 := s24.trans s45
  refine ⟨b, c, t0, L', [], rfl, rfl, s25 _ _ hb2, rows_same R2 s25, upd_same, fun p hp => s45 _ _ (e3 p hp), by omega, fun h => T1.2.2.1.ne ((memL _).mp h), fun e L3 he pm3 => ?_⟩
  have s56 := same_new he (SetO P w e (kys L3))
  have R3 : RowsIn (upd (upd H4 c (SetO P w c (kys [(t0, [])]))) e (SetO P w e (kys L3))) L3 := fun p hp => by
    rcases List.mem_cons.mp (pm3.mem_iff.mp hp) with h | h
    · rw [h]
      exact s56 _ _ (s45 _ _ (e3 (t0, []) (List.mem_singleton.mpr rfl)))
    · exact s56 _ _ (s25 _ _ (R2 p h))
  refine ⟨e, L3, rfl, upd_same, R3, by rw [pm3.length_eq, List.length_cons]; omega, fun L4 l4 pm4 hnd4 hs4 hl4 => ?_⟩
  have s67 := same_new hl4 (.lst (L4.map fun q => V.ref q.1))
  have R4 : RowsIn (upd (upd (upd H4 c (SetO P w c (kys [(t0, [])]))) e (SetO P w e (kys L3))) l4 (.lst (L4.map fun q => V.ref q.1))) L4 := fun p hp => s67 _ _ (R3 p (pm4.mem_iff.mp hp))
  have e7 : upd (upd (upd H4 c (SetO P w c (kys [(t0, [])]))) e (SetO P w e (kys L3))) l4 (.lst (L4.map fun q => V.ref q.1)) l4 = some (.lst (rf L4)) := upd_same
  have s07 : Same H (upd (upd (upd H4 c (SetO P w c (kys [(t0, [])]))) e (SetO P w e (kys L3))) l4 (.lst (L4.map fun q => V.ref q.1))) := (((s1.trans s2).trans s25).trans s56).trans s67
  have ris4 : Ris rmLt (nm L4) := ris_of_le rm_to hnd4 hs4
  have mem4 : ∀ q, q ∈ nm L4 ↔ q = [] ∨ q ∈ nm L := fun q => by
    have pm := (pm4.trans pm3).map (·.2)
    show q ∈ L4.map (·.2) ↔ _
    rw [pm.mem_iff, List.map_cons, List.mem_cons, memL]
  have len4 : L4.length ≤ 61 := by rw [(pm4.trans pm3).length_eq, List.length_cons]; omega
  generalize upd (upd (upd H4 c (SetO P w c (kys [(t0, [])]))) e (SetO P w e (kys L3))) l4 (.lst (L4.map fun q => V.ref q.1)) = H7 at s67 R4 e7 s07 ⊢
  refine ⟨l4, rfl, ⟨_, SqL.of e7⟩, fun d hd => ?_⟩
  refine dcT_list (K := K) (a := l4) (xs := rf L4) (fun j H' => H' d = some (.dT (kvr ((nm L4).take j))) ∧ Same H7 H') ?_ (fun j H' _ h => SqL.of (h.2 _ _ e7)) ?_ ?_
  · exact ⟨upd_same, same_new hd _⟩
  · rintro j y H8 hy ⟨hd8, s8⟩
    obtain ⟨p, hp, rfl⟩ := rf_get hy
    have hj := (List.getElem?_eq_some_iff.mp hp).1
    have hpn : (nm L4)[j]? = some p.2 := by unfold nm; rw [List.getElem?_map, hp] <;> rfl
    refine ⟨rfl, _, rfl, _, ro p.2, p.1, rfl, ?_, hd8, small1000 ?_, ?_, fun b o e => by rw [upd_ne (ne_of_none e hd)]; exact s8 b o e⟩
    · rw [ro_kV]
      exact s8 _ _ (R4 p (List.mem_of_getElem? hp))
    · unfold kvr
      rw [List.length_map, List.length_take]
      omega
    · rw [upd_same, kvr_put, List.take_add_one, hpn]
      · rfl
      · intro m
        obtain ⟨i, hi⟩ := List.getElem?_of_mem m
        rw [List.getElem?_take] at hi
        by_cases hij : i < j
        · rw [if_pos hij] at hi
          have hl1 := (List.getElem?_eq_some_iff.mp hi).1
          have := (List.getElem?_inj hl1 hnd4).mp (hi.trans hpn.symm)
          omega
        · rw [if_neg hij] at hi
          cases hi
  · rintro H8 ⟨hd8, s8⟩
    rw [rf_len, List.take_of_length_le (by unfold nm; rw [List.length_map]; exact Nat.le_refl _)] at hd8
    have s08 := s07.trans s8
    refine ⟨_, rfl, p, C, dx, _, rfl, s08 _ _ hp, T.cl, T.nk, (by show 0 < 1000; decide), ?_⟩
    have npd : d ≠ p := fun z => by
      rw [z, s07 _ _ hp] at hd
      cases hd
    refine q d (nm L4) _ (s07.free hd) upd_same (by rw [upd_ne npd]; exact hd8) ris4 mem4 fun b o e n => by rw [upd_ne n]; exact s08 b o e
end
end Ho
end

section
set_option Elab.async false
set_option linter.all false
set_option maxRecDepth 100000
set_option maxHeartbeats 2000000
/-! K6d: the methods of Rooms; the dict is locked while they run. -/
namespace Ho
open PySem PySem.Spec PyProof.Rows L2
/-- Rooms at p, its dict at d locked -/
def KnF (C : Addr) (H : Hp) (p d : Addr) (S : List Rm) : Prop := ∃ dx o, H p = some (.ins C dx (kf d)) ∧ H d = some (.frz o (.dT (kvr S)))
theorem KnF.same {C : Addr} {H H' : Hp} {p d : Addr} {S : List Rm} (h : KnF C H p d S) (s : Same H H') : KnF C H' p d S := by
  obtain ⟨dx, o, h1, h2⟩ := h
  exact ⟨dx, o, s _ _ h1, s _ _ h2⟩
/-- a tree whose rooms can be told of -/
structure Tr (S : List Rm) : Prop where
  tree : Tree slt S
  ok : ∀ r ∈ S, RmOk r
  len : S.length ≤ 61
theorem RoomIn.same {H H' : Hp} {t : Addr} {r : Rm} (h : RoomIn H t r) (s : Same H H') : RoomIn H' t r := ⟨s _ _ h.1, h.2⟩
/-- a new list of these rooms -/
def News (T : List Rm) (H : Hp) (Q : VK) : Prop := ∀ (a : Addr) (L : Rw) (H' : Hp), H a = none → H' a = some (.lst (rf L)) → RowsIn H' L → nm L = T → Same H H' → Q (.ref a) H'
def spNeed (C : Addr) : Sp := fun vs H Q _ => ∃ (p d t : Addr) (S : List Rm) (r : Rm), vs = [.ref p, .ref t] ∧ KnF C H p d S ∧ RoomIn H t r ∧ r ∈ S ∧ ∀ H', Same H H' → Q .non H'
def spRooms (C : Addr) : Sp := fun vs H Q _ => ∃ (p d : Addr) (S : List Rm), vs = [.ref p] ∧ KnF C H p d S ∧ News S H Q
def spOne (C : Addr) (f : List Rm → Rm → List Rm) : Sp := fun vs H Q _ => ∃ (p d t : Addr) (S : List Rm) (r : Rm), vs = [.ref p, .ref t] ∧ KnF C H p d S ∧ Tr S ∧ RoomIn H t r ∧ r ∈ S ∧ News (f S r) H Q
def spEnds (C : Addr) : Sp := fun vs H Q _ => ∃ (p d : Addr) (S : List Rm), vs = [.ref p] ∧ KnF C H p d S ∧ Tr S ∧ News (ends S) H Q
/-- a method -/
structure Mt (K : PySem.W.Frag) (C : Addr) (m qual : Str) (st : Stmt) (ps : List Str) (f : Addr) (fd : FuncData) : Prop where
  F : Fun K m qual st f fd
  b : Binds K fd ps []
  m : Meth K C m f
theorem take_filter {f : Rm → Bool} {S : List Rm} {j : Nat} {q : Rm} (h : S[j]? = some q) : (S.take (j + 1)).filter f = (S.take j).filter f ++ (if f q = true then [q] else []) := by
  rw [List.take_add_one, h, List.filter_append]
  show _ ++ [q].filter f = _
  rw [List.filter_cons, List.filter_nil]
theorem kvr_at {S : List Rm} {j : Nat} {k : List L2.Key} {v : V} (h : (kvr S)[j]? = some (k, v)) : ∃ q, S[j]? = some q ∧ k = ro q := by
  unfold kvr at h
  rw [List.getElem?_map] at h
  cases e : S[j]? with
  | none => rw [e] at h; cases h
  | some q =>
    rw [e] at h
    have h := Option.some.inj h
    exact ⟨q, rfl, (congrArg Prod.fst h).symm⟩
/-- one more item of a list of rooms -/
theorem rows_snoc {H : Hp} {D : Addr} {L : Rw} {q : Addr} {r : Rm} (hR : RowsIn H L) (hD : H D = some (.lst (rf L))) (hq : H q = some (.tup (r.map V.str))) : RowsIn (upd H D (.lst (rf L ++ [.ref q]))) (L ++ [(q, r)]) := by
  refine rows_upd (D := D) (xs := rf L) (fun p hp => ?_) hD
  rcases List.mem_append.mp hp with hp | hp
  · exact hR p hp
  · rw [List.mem_singleton.mp hp]
    exact hq
theorem rf_snoc (L : Rw) (q : Addr) (r : Rm) : rf L ++ [V.ref q] = rf (L ++ [(q, r)]) := by unfold rf; rw [List.map_append] <;> rfl
theorem nm_snoc (L : Rw) (q : Addr) (r : Rm) : nm (L ++ [(q, r)]) = nm L ++ [r] := by unfold nm; rw [List.map_append] <;> rfl
theorem nm_len (L : Rw) : (nm L).length = L.length := List.length_map _
section
variable {P : Program} {w : World} {K : PySem.W.Frag} {mg : Str → Option Value} {base : Heap}
theorem scNeed : FnScope ["self", "room"] ["self", "room"] (defScope sNeed) := ⟨rfl, rfl, rfl, by decide +kernel, rfl, by decide +kernel, by decide +kernel⟩
theorem scRooms : FnScope ["self"] ["self"] (defScope sRooms) := ⟨rfl, rfl, rfl, by decide +kernel, rfl, by decide +kernel, by decide +kernel⟩
theorem scInside : FnScope ["self", "room", "one"] ["self", "room"] (defScope sInside) := ⟨rfl, rfl, rfl, by decide +kernel, rfl, by decide +kernel, by decide +kernel⟩
theorem scBeneath : FnScope ["self", "room", "one"] ["self", "room"] (defScope sBeneath) := ⟨rfl, rfl, rfl, by decide +kernel, rfl, by decide +kernel, by decide +kernel⟩
theorem scOver : FnScope ["self", "room", "many"] ["self", "room"] (defScope sOver) := ⟨rfl, rfl, rfl, by decide +kernel, rfl, by decide +kernel, by decide +kernel⟩
theorem scEnds : FnScope ["self", "room"] ["self"] (defScope sEnds) := ⟨rfl, rfl, rfl, by decide +kernel, rfl, by decide +kernel, by decide +kernel⟩
theorem ok_need {f g : Addr} {fd gd : FuncData} {C : Addr} (D : Mt K C "need" "Rooms.need" sNeed ["self", "room"] f fd) (DR : Df K mg "is_room" sIsRoom ["thing"] g gd) (GR : FnOk P w K mg base CX0 2 g gd ["thing"] spIsRoom) (T : Kl K mg C) : FnOk P w K mg base CX0 3 f fd ["self", "room"] (spNeed C) := by
  refine D.F.ok scNeed (fun vs H Q E h => ?_) (fun cdv A outer s H vs Q E hr h => ?_)
  · obtain ⟨p, d, t, S, r, rfl, _⟩ := h
    rfl
  obtain ⟨p, d, t, S, r, rfl, hk, ht, hm, q⟩ := h
  refine ⟨_, pss_one (ps_if (PW.pt (pw_or (pt_not (pt_val (pe_call GR hr rfl DR.m DR.F.kp DR.b .nil pass0 (pa_cons (pv 1) pa_nil)))) (pw_or1 (pt_cmp (pc_dnotin (hu_of hr) (pv 1) (pe_fld (pv 0) rfl)))))) pss_never pss_nil), ?_⟩
  refine ⟨_, rfl, _, rfl, ⟨t, r, rfl, ht⟩, fun H1 s1 => ⟨true, rfl, iteF ?_⟩⟩
  have ht1 := ht.same s1
  obtain ⟨dx, o, h1, h2⟩ := hk.same s1
  refine ⟨_, rfl, _, rfl, p, C, dx, _, _, rfl, h1, T.cl, T.nk, kf_known d, d, _, rfl, .inr ⟨kvr S, ro r, t, .inr ⟨o, h2⟩, rfl, by rw [ro_kV]; exact ht1.1, rfl⟩, _, rfl, ?_⟩
  rw [kvr_get hm]
  exact iteF (q H1 s1)
theorem ok_rooms {f : Addr} {fd : FuncData} {C : Addr} (D : Mt K C "rooms" "Rooms.rooms" sRooms ["self"] f fd) (T : Kl K mg C) (B : Bu mg) : FnOk P w K mg base CX0 1 f fd ["self"] (spRooms C) := by
  refine D.F.ok scRooms (fun vs H Q E h => ?_) (fun cdv A outer s H vs Q E hr h => ?_)
  · obtain ⟨p, d, S, rfl, _⟩ := h
    rfl
  obtain ⟨p, d, S, rfl, ⟨dx, o, h1, h2⟩, q⟩ := h
  refine ⟨_, pss_one (ps_ret (pe_callTy (call_list_dT rfl) (by rfl) B.list (by decide +kernel) (pa_cons (pe_fld (pv 0) rfl) pa_nil))), ?_⟩
  refine ⟨_, rfl, p, C, dx, _, _, rfl, h1, T.cl, T.nk, kf_known d, d, _, rfl, .inr ⟨o, h2⟩, fun a bs ha hb => ?_⟩
  have two : ∀ (S : List Rm) (bs : List Addr), IsKeys H (kvr S) bs → ∃ L : Rw, rf L = bs.map V.ref ∧ nm L = S ∧ RowsIn H L := by
    intro S
    induction S with
    | nil =>
      intro bs hb
      cases hb
      exact ⟨[], rfl, rfl, fun p hp => nomatch hp⟩
    | cons r S ih =>
      intro bs hb
      cases hb with
      | cons h t =>
        obtain ⟨L, e1, e2, e3⟩ := ih _ t
        refine ⟨(_, r) :: L, congrArg (_ :: ·) e1, congrArg (_ :: ·) e2, fun p hp => ?_⟩
        rcases List.mem_cons.mp hp with hp | hp
        · rw [hp]
          rw [ro_kV] at h
          exact h
        · exact e3 p hp
  obtain ⟨L, e1, e2, e3⟩ := two S bs hb
  rw [← e1]
  exact q a L _ ha upd_same (rows_same e3 (same_new ha _)) e2 (same_new ha _)
theorem ok_inside {f g : Addr} {fd gd : FuncData} {C : Addr} (D : Mt K C "inside" "Rooms.inside" sInside ["self", "room"] f fd) (DN : Mt K C "need" "Rooms.need" sNeed ["self", "room"] g gd) (GN : FnOk P w K mg base CX0 3 g gd ["self", "room"] (spNeed C)) (T : Kl K mg C) : FnOk P w K mg base CX0 4 f fd ["self", "room"] (spOne C inside) := by
  refine D.F.ok scInside (fun vs H Q E h => ?_) (fun cdv A outer s H vs Q E hr h => ?_)
  · obtain ⟨p, d, t, S, r, rfl, _⟩ := h
    rfl
  obtain ⟨p, d, t, S, r, rfl, hk, W, ht, hm, q⟩ := h
  have nd := scInside.nd
  refine ⟨_, pss_cons (ps_expr (pe_meth (pv 0) T.cl DN.m GN hr DN.b .nil pass0 (pa_cons (pv 1) pa_nil)))
    (pss_one (ps_ret (pe_lc (own := [("one", 2)]) (g := gName 2) rfl nd (pi_keys (pe_fld (pv 0) rfl)) (blkOk_by (own := [("one", 2)]) (N := ["self", "room", "one"]) (sc := defScope sInside) (by decide +kernel))
      (fun _ _ _ _ _ => pg_name (i := 2) nd rfl (Or.inl rfl))
      (fun _ _ _ _ _ => pts_one (PW.pt (pw_and (pt_cmpR (r := rEqD K) (op_eqD hr.units) (pe_slice (r := rSlA K) sl_tupA (pv 2) po_none (po_some (pe_un un_neg pe_int))) (pv 1) (nomark _)) (pw_and1 (pt_cmpR (r := rNeD K) (op_neD hr.units) (pv 2) (pv 1) (nomark _))))))
      (fun _ _ _ _ _ => pv 2)))), ?_⟩
  obtain ⟨dx, o, h1, h2⟩ := id hk
  refine ⟨_, rfl, p, dx, _, rfl, h1, kf_no d (by decide +kernel), _, rfl, p, d, t, S, r, rfl, hk, ht, hm, fun H1 s1 => ?_⟩
  have ht1 := ht.same s1
  have h1 := s1 _ _ h1
  have h2 := s1 _ _ h2
  refine ⟨_, rfl, p, C, dx, _, _, rfl, h1, T.cl, T.nk, kf_known d, d, o, rfl, .inr ⟨_, h2, fun D hD => ?_⟩⟩
  refine lc_it walk_keysT (fun j H' => ∃ L : Rw, H' D = some (.lst (rf L)) ∧ RowsIn H' L ∧ nm L = (S.take j).filter (fun o => decide (o.dropLast = r) && decide (o ≠ r)) ∧ Same H1 H') ⟨[], upd_same, (fun p hp => nomatch hp), by simp <;> rfl, same_new hD _⟩ (fun i H' _ ⟨_, _, _, _, s⟩ => s _ _ h2) ?_ ?_
  · rintro j y H2 _ hj ⟨L, hD2, hR2, hL, s2⟩ ⟨rfl, k, v, b, hkv, rfl, hb⟩
    obtain ⟨u, hu, rfl⟩ := kvr_at hkv
    rw [ro_kV] at hb
    have oku := W.ok u (List.mem_of_getElem? hu)
    have okd : RmOk u.dropLast := fun z hz => oku z ((List.dropLast_sublist u).subset hz)
    have lenL : L.length ≤ 61 := by
      rw [← nm_len, hL]
      refine Nat.le_trans (List.length_filter_le _ _) ?_
      rw [List.length_take]
      have := W.len
      omega
    refine ⟨rfl, _, rfl, _, rfl, _, rfl, slA_init hb fun b2 H3 s3 hb2 => ⟨_, rfl, _, _, room_dp hb2, room_dp (s3 _ _ (s2 _ _ ht1.1)), shaped_room okd, shaped_room ht.2.1, _, rfl, ?_⟩⟩
    rw [eqv_room]
    have hD3 := s3 _ _ hD2
    have hR3 := rows_same hR2 s3
    have s13 := s2.trans s3
    have step := take_filter (f := fun o => decide (o.dropLast = r) && decide (o ≠ r)) hu
    refine ite2 (fun c => ?_) (fun c => ?_)
    · refine ⟨_, rfl, _, rfl, _, _, room_dp (s3 _ _ hb), room_dp (s13 _ _ ht1.1), shaped_room oku, shaped_room ht.2.1, _, rfl, ?_⟩
      rw [eqv_room]
      refine ite2 (fun c2 => ?_) (fun c2 => ?_)
      · refine ⟨_, rfl, _, hD3, small1000 (by rw [rf_len]; omega), L ++ [(b, u)], by rw [upd_same, rf_snoc], rows_snoc hR3 hD3 (s3 _ _ hb), ?_, fun b o e => by rw [upd_ne (ne_of_none e hD)]; exact s13 b o e⟩
        rw [nm_snoc, hL, step, if_pos (by simp at c c2; simp [c, c2])]
      · refine ⟨L, hD3, hR3, ?_, s13⟩
        rw [hL, step, if_neg (by simp at c c2; simp [c2]), List.append_nil]
    · refine iteF ⟨L, hD3, hR3, ?_, s13⟩
      rw [hL, step, if_neg (by simp at c; simp [c]), List.append_nil]
  · rintro H2 ⟨L, hD2, hR2, hL, s2⟩
    have e : (kvr S).length = S.length := by unfold kvr; rw [List.length_map]
    rw [e, List.take_of_length_le (Nat.le_refl _)] at hL
    exact q D L H2 (s1.free hD) hD2 hR2 hL (s1.trans s2)
end
end Ho
end

section
set_option Elab.async false
set_option linter.all false
set_option maxRecDepth 100000
set_option maxHeartbeats 2000000
/-! K6e: more methods of Rooms. -/
namespace Ho
open PySem PySem.Spec PyProof.Rows L2
section
variable {P : Program} {w : World} {K : PySem.W.Frag} {mg : Str → Option Value} {base : Heap}
theorem ok_beneath {f g : Addr} {fd gd : FuncData} {C : Addr} (D : Mt K C "beneath" "Rooms.beneath" sBeneath ["self", "room"] f fd) (DN : Mt K C "need" "Rooms.need" sNeed ["self", "room"] g gd) (GN : FnOk P w K mg base CX0 3 g gd ["self", "room"] (spNeed C)) (T : Kl K mg C) (B : Bu mg) : FnOk P w K mg base CX0 4 f fd ["self", "room"] (spOne C beneath) := by
  refine D.F.ok scBeneath (fun vs H Q E h => ?_) (fun cdv A outer s H vs Q E hr h => ?_)
  · obtain ⟨p, d, t, S, r, rfl, _⟩ := h
    rfl
  obtain ⟨p, d, t, S, r, rfl, hk, W, ht, hm, q⟩ := h
  have nd := scBeneath.nd
  refine ⟨_, pss_cons (ps_expr (pe_meth (pv 0) T.cl DN.m GN hr DN.b .nil pass0 (pa_cons (pv 1) pa_nil)))
    (pss_one (ps_ret (pe_lc (own := [("one", 2)]) (g := gName 2) rfl nd (pi_keys (pe_fld (pv 0) rfl)) (blkOk_by (own := [("one", 2)]) (N := ["self", "room", "one"]) (sc := defScope sBeneath) (by decide +kernel))
      (fun _ _ _ _ _ => pg_name (i := 2) nd rfl (Or.inl rfl))
      (fun _ _ _ _ _ => pts_one (PW.pt (pw_and (pt_cmpR (r := rEqD K) (op_eqD hr.units) (pe_slice (r := rSlA K) sl_tupA (pv 2) po_none (po_some (pe_callB (r := rLen K) call_len_seq (by rfl) B.len PySem.boot_len (pa_cons (pv 1) pa_nil)))) (pv 1) (nomark _)) (pw_and1 (pt_cmpR (r := rNeD K) (op_neD hr.units) (pv 2) (pv 1) (nomark _))))))
      (fun _ _ _ _ _ => pv 2)))), ?_⟩
  obtain ⟨dx, o, h1, h2⟩ := id hk
  refine ⟨_, rfl, p, dx, _, rfl, h1, kf_no d (by decide +kernel), _, rfl, p, d, t, S, r, rfl, hk, ht, hm, fun H1 s1 => ?_⟩
  have ht1 := ht.same s1
  have h1 := s1 _ _ h1
  have h2 := s1 _ _ h2
  refine ⟨_, rfl, p, C, dx, _, _, rfl, h1, T.cl, T.nk, kf_known d, d, o, rfl, .inr ⟨_, h2, fun D hD => ?_⟩⟩
  refine lc_it walk_keysT (fun j H' => ∃ L : Rw, H' D = some (.lst (rf L)) ∧ RowsIn H' L ∧ nm L = (S.take j).filter (fun o => decide (o.take r.length = r) && decide (o ≠ r)) ∧ Same H1 H') ⟨[], upd_same, (fun p hp => nomatch hp), by simp <;> rfl, same_new hD _⟩ (fun i H' _ ⟨_, _, _, _, s⟩ => s _ _ h2) ?_ ?_
  · rintro j y _ H2 hj ⟨L, hD2, hR2, hL, s2⟩ ⟨rfl, k, v, b, hkv, rfl, hb⟩
    obtain ⟨u, hu, rfl⟩ := kvr_at hkv
    rw [ro_kV] at hb
    have oku := W.ok u (List.mem_of_getElem? hu)
    have okd : RmOk (u.take (r.map V.str).length) := fun z hz => oku z (List.mem_of_mem_take hz)
    have lenL : L.length ≤ 61 := by
      rw [← nm_len, hL]
      refine Nat.le_trans (List.length_filter_le _ _) ?_
      rw [List.length_take]
      have := W.len
      omega
    refine ⟨rfl, _, rfl, _, rfl, t, _, rfl, .inr (SqT.of (s2 _ _ ht1.1)), _, rfl, slA_take (r.map V.str).length hb fun b2 H3 s3 hb2 => ⟨_, rfl, _, _, room_dp hb2, room_dp (s3 _ _ (s2 _ _ ht1.1)), shaped_room okd, shaped_room ht.2.1, _, rfl, ?_⟩⟩
    rw [eqv_room, List.length_map]
    have hD3 := s3 _ _ hD2
    have hR3 := rows_same hR2 s3
    have s13 := s2.trans s3
    have step := take_filter (f := fun o => decide (o.take r.length = r) && decide (o ≠ r)) hu
    refine ite2 (fun c => ?_) (fun c => ?_)
    · refine ⟨_, rfl, _, rfl, _, _, room_dp (s3 _ _ hb), room_dp (s13 _ _ ht1.1), shaped_room oku, shaped_room ht.2.1, _, rfl, ?_⟩
      rw [eqv_room]
      have c := of_decide_eq_true c
      refine ite2 (fun c2 => ?_) (fun c2 => ?_)
      · have c2 : u ≠ r := fun z => by rw [decide_eq_true z] at c2; exact absurd c2 (by decide)
        refine ⟨_, rfl, _, hD3, small1000 (by rw [rf_len]; omega), L ++ [(b, u)], by rw [upd_same, rf_snoc], rows_snoc hR3 hD3 (s3 _ _ hb), ?_, fun b o e => by rw [upd_ne (ne_of_none e hD)]; exact s13 b o e⟩
        rw [nm_snoc, hL, step, if_pos (by rw [decide_eq_true c, decide_eq_true c2] <;> rfl)]
      · have c2 : ¬ (u ≠ r) := fun z => by rw [decide_eq_false z] at c2; exact c2 rfl
        refine ⟨L, hD3, hR3, ?_, s13⟩
        rw [hL, step, if_neg (by rw [decide_eq_false c2, Bool.and_false]; exact Bool.false_ne_true), List.append_nil]
    · have c := fun z => c (decide_eq_true z)
      refine iteF ⟨L, hD3, hR3, ?_, s13⟩
      rw [hL, step, if_neg (by rw [decide_eq_false c, Bool.false_and]; exact Bool.false_ne_true), List.append_nil]
  · rintro H2 ⟨L, hD2, hR2, hL, s2⟩
    have e : (kvr S).length = S.length := by unfold kvr; rw [List.length_map]
    rw [e, List.take_of_length_le (Nat.le_refl _)] at hL
    exact q D L H2 (s1.free hD) hD2 hR2 hL (s1.trans s2)
theorem ok_over {f g : Addr} {fd gd : FuncData} {C : Addr} (D : Mt K C "over" "Rooms.over" sOver ["self", "room"] f fd) (DN : Mt K C "need" "Rooms.need" sNeed ["self", "room"] g gd) (GN : FnOk P w K mg base CX0 3 g gd ["self", "room"] (spNeed C)) (T : Kl K mg C) (B : Bu mg) : FnOk P w K mg base CX0 4 f fd ["self", "room"] (spOne C fun _ r => over r) := by
  refine D.F.ok scOver (fun vs H Q E h => ?_) (fun cdv A outer s H vs Q E hr h => ?_)
  · obtain ⟨p, d, t, S, r, rfl, _⟩ := h
    rfl
  obtain ⟨p, d, t, S, r, rfl, hk, W, ht, hm, q⟩ := h
  have nd := scOver.nd
  refine ⟨_, pss_cons (ps_expr (pe_meth (pv 0) T.cl DN.m GN hr DN.b .nil pass0 (pa_cons (pv 1) pa_nil)))
    (pss_one (ps_ret (pe_lc (own := [("many", 2)]) (g := gName 2) (tt := tYes) rfl nd (pi_range1 rfl B.range (pa_cons (pe_callB call_len_seq (by rfl) B.len PySem.boot_len (pa_cons (pv 1) pa_nil)) pa_nil)) (blkOk_by (own := [("many", 2)]) (N := ["self", "room", "many"]) (sc := defScope sOver) (by decide +kernel))
      (fun _ _ _ _ _ => pg_name (i := 2) nd rfl (Or.inl rfl))
      (fun _ _ _ _ _ => pts_nil)
      (fun _ _ _ _ _ => pe_slice (r := rSlA K) sl_tupA (pv 1) po_none (po_some (pv 2)))))), ?_⟩
  obtain ⟨dx, o, h1, h2⟩ := id hk
  refine ⟨_, rfl, p, dx, _, rfl, h1, kf_no d (by decide +kernel), _, rfl, p, d, t, S, r, rfl, hk, ht, hm, fun H1 s1 => ?_⟩
  have ht1 := ht.same s1
  have h4 := ht.2.2
  refine ⟨_, rfl, t, _, rfl, .inr (SqT.of ht1.1), r.length, by rw [List.length_map], by omega, by omega, fun D hD => ?_⟩
  refine lc_range (lo := 0) (n := r.length) (fun j H' => ∃ L : Rw, H' D = some (.lst (rf L)) ∧ RowsIn H' L ∧ nm L = (List.range j).map (fun n => r.take n) ∧ Same H1 H') ⟨[], upd_same, (fun p hp => nomatch hp), rfl, same_new hD _⟩ ?_ ?_
  · rintro j H2 hj ⟨L, hD2, hR2, hL, s2⟩
    have lenL : L.length = j := by rw [← nm_len, hL, List.length_map, List.length_range]
    refine ⟨rfl, _, rfl, _, rfl, ((j : Nat) : Int), congrArg V.int (by omega), slA_take j (s2 _ _ ht1.1) fun b H3 s3 hb => ?_⟩
    refine ⟨_, s3 _ _ hD2, small1000 (by rw [rf_len]; omega), L ++ [(b, r.take j)], by rw [upd_same, rf_snoc], rows_snoc (rows_same hR2 s3) (s3 _ _ hD2) hb, ?_, fun b o e => by rw [upd_ne (ne_of_none e hD)]; exact s3 b o (s2 b o e)⟩
    rw [nm_snoc, hL, List.range_succ, List.map_append] <;> rfl
  · rintro H2 ⟨L, hD2, hR2, hL, s2⟩
    exact q D L H2 (s1.free hD) hD2 hR2 hL (s1.trans s2)
theorem ok_ends {f g : Addr} {fd gd : FuncData} {C : Addr} (D : Mt K C "ends" "Rooms.ends" sEnds ["self"] f fd) (DI : Mt K C "inside" "Rooms.inside" sInside ["self", "room"] g gd) (GI : FnOk P w K mg base CX0 4 g gd ["self", "room"] (spOne C inside)) (T : Kl K mg C) : FnOk P w K mg base CX0 5 f fd ["self"] (spEnds C) := by
  refine D.F.ok scEnds (fun vs H Q E h => ?_) (fun cdv A outer s H vs Q E hr h => ?_)
  · obtain ⟨p, d, S, rfl, _⟩ := h
    rfl
  obtain ⟨p, d, S, rfl, hk, W, q⟩ := h
  have nd := scEnds.nd
  refine ⟨_, pss_one (ps_ret (pe_lc (own := [("room", 1)]) (g := gName 1) rfl nd (pi_keys (pe_fld (pv 0) rfl)) (blkOk_by (own := [("room", 1)]) (N := ["self", "room"]) (sc := defScope sEnds) (by decide +kernel))
      (fun _ _ _ _ _ => pg_name (i := 1) nd rfl (Or.inl rfl))
      (fun _ _ _ _ _ => pts_one (pt_cmpR (r := rEqD K) (op_eqD hr.units) (pe_meth (pv 0) T.cl DI.m GI hr DI.b .nil pass0 (pa_cons (pv 1) pa_nil)) (pe_lst pa_nil) (nomark _)))
      (fun _ _ _ _ _ => pv 1))), ?_⟩
  obtain ⟨dx, o, h1, h2⟩ := id hk
  refine ⟨_, rfl, p, C, dx, _, _, rfl, h1, T.cl, T.nk, kf_known d, d, o, rfl, .inr ⟨_, h2, fun D hD => ?_⟩⟩
  refine lc_it walk_keysT (fun j H' => ∃ L : Rw, H' D = some (.lst (rf L)) ∧ RowsIn H' L ∧ nm L = (S.take j).filter (fun r => decide (inside S r = [])) ∧ Same H H') ⟨[], upd_same, (fun p hp => nomatch hp), by simp <;> rfl, same_new hD _⟩ (fun i H' _ ⟨_, _, _, _, s⟩ => s _ _ h2) ?_ ?_
  · rintro j y _ H2 hj ⟨L, hD2, hR2, hL, s2⟩ ⟨rfl, k, v, b, hkv, rfl, hb⟩
    obtain ⟨u, hu, rfl⟩ := kvr_at hkv
    rw [ro_kV] at hb
    have hum := List.mem_of_getElem? hu
    have oku := W.ok u hum
    have lenL : L.length ≤ 61 := by
      rw [← nm_len, hL]
      refine Nat.le_trans (List.length_filter_le _ _) ?_
      rw [List.length_take]
      have := W.len
      omega
    have hru : RoomIn H2 b u := ⟨hb, oku, W.tree.deep u hum⟩
    refine ⟨rfl, _, rfl, p, dx, _, rfl, s2 _ _ h1, kf_no d (by decide +kernel), _, rfl, p, d, b, S, u, rfl, hk.same s2, W, hru, hum, fun a I H3 ha hI hRI hIn s3 => ⟨Nat.zero_le _, fun e he => ?_⟩⟩
    have s4 := same_new he (.lst [])
    have okI : ∀ r ∈ nm I, RmOk r := fun r hr => by
      rw [hIn] at hr
      exact W.ok r ((List.mem_filter.mp hr).1)
    refine ⟨_, .list (([] : List Rm).map enc), (rows_same hRI s4).list (SqL.of (s4 _ _ hI)), .lst (xs := []) (SqL.of upd_same) .nil, shaped_rooms okI, shaped_rooms (fun r hr => nomatch hr), _, rfl, ?_⟩
    rw [eqv_rooms, hIn]
    have s34 := s3.trans s4
    have hD3 := s34 _ _ hD2
    have hR3 := rows_same hR2 s34
    have s13 := s2.trans s34
    have step := take_filter (f := fun r => decide (inside S r = [])) hu
    refine ite2 (fun c => ?_) (fun c => ?_)
    · refine ⟨_, rfl, _, hD3, small1000 (by rw [rf_len]; omega), L ++ [(b, u)], by rw [upd_same, rf_snoc], rows_snoc hR3 hD3 (s34 _ _ hb), ?_, fun b o e => by rw [upd_ne (ne_of_none e hD)]; exact s13 b o e⟩
      rw [nm_snoc, hL, step, if_pos c]
    · refine ⟨L, hD3, hR3, ?_, s13⟩
      rw [hL, step, if_neg c, List.append_nil]
  · rintro H2 ⟨L, hD2, hR2, hL, s2⟩
    have e : (kvr S).length = S.length := by unfold kvr; rw [List.length_map]
    rw [e, List.take_of_length_le (Nat.le_refl _)] at hL
    exact q D L H2 hD hD2 hR2 hL s2
end
end Ho
end

section
set_option Elab.async false
set_option linter.all false
set_option maxRecDepth 100000
set_option maxHeartbeats 2000000
/-! K7a: the walk down. -/
namespace Ho
open PySem PySem.Spec PyProof.Rows L2
theorem flat_take {B C : Type} (f : B → List C) {l : List B} {i : Nat} {x : B} (h : l[i]? = some x) : (l.take (i + 1)).flatMap f = (l.take i).flatMap f ++ f x := by
  rw [List.take_add_one, h, List.flatMap_append]
  show _ ++ [x].flatMap f = _
  rw [List.flatMap_cons, List.flatMap_nil, List.append_nil]
theorem flat_le {B C : Type} (f : B → List C) (l : List B) (i : Nat) : ((l.take i).flatMap f).length ≤ (l.flatMap f).length := by
  have e : l.flatMap f = (l.take i).flatMap f ++ (l.drop i).flatMap f := by rw [← List.flatMap_append, List.take_append_drop]
  rw [e, List.length_append]
  omega
theorem nm_append (L M : Rw) : nm (L ++ M) = nm L ++ nm M := List.map_append
theorem rf_append (L M : Rw) : rf L ++ rf M = rf (L ++ M) := List.map_append.symm
theorem rows_append {H : Hp} {L M : Rw} (h : RowsIn H L) (k : RowsIn H M) : RowsIn H (L ++ M) := fun p hp => by
  rcases List.mem_append.mp hp with hp | hp
  · exact h p hp
  · exact k p hp
/-- what filter leaves of a tree is short and can be told of -/
theorem Tr.sub_len {S T : List Rm} (W : Tr S) (f : Rm → Bool) (e : T = S.filter f) : T.length ≤ 61 := by
  rw [e]
  exact Nat.le_trans (List.length_filter_le _ _) W.len
theorem Tr.inside_len {S : List Rm} (W : Tr S) (r : Rm) : (inside S r).length ≤ 61 := W.sub_len _ rfl
theorem Tr.room {S : List Rm} (W : Tr S) {H : Hp} {t : Addr} {r : Rm} (hr : r ∈ S) (h : H t = some (.tup (r.map V.str))) : RoomIn H t r := ⟨h, W.ok r hr, W.tree.deep r hr⟩
theorem inside_sub {S : List Rm} {r c : Rm} (h : c ∈ inside S r) : c ∈ S := (List.mem_filter.mp h).1
theorem beneath_sub {S : List Rm} {r c : Rm} (h : c ∈ beneath S r) : c ∈ S := (List.mem_filter.mp h).1
theorem ends_sub {S : List Rm} {c : Rm} (h : c ∈ ends S) : c ∈ S := (List.mem_filter.mp h).1
theorem nm_at {L : Rw} {i : Nat} {p : Addr × Rm} (h : L[i]? = some p) : (nm L)[i]? = some p.2 := by unfold nm; rw [List.getElem?_map, h] <;> rfl
def spDown (C : Addr) (n : Nat) : Sp := fun vs H Q _ => ∃ (p d t : Addr) (S : List Rm) (r : Rm), vs = [.ref p, .ref t] ∧ KnF C H p d S ∧ Tr S ∧ RoomIn H t r ∧ r ∈ S ∧ 5 ≤ r.length + n ∧ News (sub S r) H Q
section
variable {P : Program} {w : World} {K : PySem.W.Frag} {mg : Str → Option Value} {base : Heap}
theorem scDown : FnScope ["_law_rooms", "_law_one", "_law_found", "_law_room"] ["_law_rooms", "_law_one"] (defScope sDown) := ⟨rfl, rfl, rfl, by decide +kernel, rfl, by decide +kernel, by decide +kernel⟩
theorem ok_down1 {f g : Addr} {fd gd : FuncData} {C : Addr} {n : Nat} (D : Df K mg "_law_down" sDown ["_law_rooms", "_law_one"] f fd) (G : FnOk P w K mg base CX0 (4 + n) f fd ["_law_rooms", "_law_one"] (spDown C n)) (DI : Mt K C "inside" "Rooms.inside" sInside ["self", "room"] g gd) (GI : FnOk P w K mg base CX0 4 g gd ["self", "room"] (spOne C inside)) (T : Kl K mg C) :
    FnOk P w K mg base CX0 (4 + n + 1) f fd ["_law_rooms", "_law_one"] (spDown C (n + 1)) := by
  refine D.F.ok scDown (fun vs H Q E h => ?_) (fun cdv A outer s H vs Q E hr h => ?_)
  · obtain ⟨p, d, t, S, r, rfl, _⟩ := h
    rfl
  obtain ⟨p, d, t, S, r, rfl, hk, W, ht, hm, hn, q⟩ := h
  have nd := scDown.nd
  have hr4 : Room 4 _ := hr.mono (by omega)
  refine ⟨_, pss_cons (ps_set (i := 2) nd rfl (Or.inl rfl) (pe_lst (pa_cons (pv 1) pa_nil)))
    (pss_cons (ps_for PassesOwn.never rfl (pi_list (pe_meth (pv 0) T.cl DI.m GI hr4 DI.b .nil pass0 (pa_cons (pv 1) pa_nil))) (pg_name (i := 3) nd rfl (Or.inl rfl))
      (pss_one (ps_set (i := 2) nd rfl (Or.inl rfl) (pe_op op_cat (pv 2) (pe_call G hr rfl D.m D.F.kp D.b .nil pass0 (pa_cons (pv 0) (pa_cons (pv 3) pa_nil)))))))
    (pss_one (ps_ret (pv 2)))), ?_⟩
  refine ⟨_, rfl, by show 1 ≤ sizeLine; decide, fun a ha => ?_⟩
  have s1 := same_new ha (.lst (rf [(t, r)]))
  have ha1 : upd H a (.lst (rf [(t, r)])) a = some (.lst (rf [(t, r)])) := upd_same
  have hk1 := hk.same s1
  have ht1 := ht.same s1
  show ∃ x, _
  obtain ⟨dx, o, h1, h2⟩ := id hk1
  refine ⟨_, rfl, p, dx, _, rfl, h1, kf_no d (by decide +kernel), _, rfl, p, d, t, S, r, rfl, hk1, W, ht1, hm, fun b I H2 hb hI hRI hIn s2 => ?_⟩
  have s02 := s1.trans s2
  have ha2 := s2 _ _ ha1
  have lI : I.length ≤ 61 := by rw [← nm_len, hIn]; exact W.inside_len r
  have tot := sub_eq slt_to W.tree hm
  have bnd : ∀ i, (((inside S r).take i).flatMap (sub S)).length + 1 ≤ 61 := fun i => by
    have h1 := flat_le (sub S) (inside S r) i
    have h2 : (sub S r).length ≤ 61 := W.sub_len _ rfl
    rw [tot, List.length_cons] at h2
    omega
  refine ⟨b, rfl, ⟨_, SqL.of hI⟩, for_list (K := K) (a := b) (xs := rf I) (fun i σ H' => ∃ (a' : Addr) (L : Rw) (v : Option V), σ = [some (.ref p), some (.ref t), some (.ref a'), v] ∧ H a' = none ∧ H' a' = some (.lst (rf L)) ∧ RowsIn H' L ∧ nm L = r :: ((inside S r).take i).flatMap (sub S) ∧ Same H2 H')
    ⟨a, [(t, r)], none, rfl, ha, ha2, (fun p hp => by rw [List.mem_singleton.mp hp]; exact s02 _ _ ht.1), rfl, Same.refl _⟩ (fun i σ H' _ ⟨_, _, _, _, _, _, _, _, s⟩ => s.seq (SqL.of hI)) ?_ ?_⟩
  · rintro i y σ H3 hi ⟨a', L, v, rfl, ha0, ha', hRL, hL, s3⟩
    obtain ⟨c, hc, rfl⟩ := rf_get hi
    have hci : (inside S r)[i]? = some c.2 := by rw [← hIn]; exact nm_at hc
    have hcm := List.mem_of_getElem? hci
    have hcS := inside_sub hcm
    have s03 := s02.trans s3
    have hcl : c.2.length = r.length + 1 := by
      obtain ⟨_, x, e⟩ := mem_inside.mp hcm
      rw [e, List.length_append] <;> rfl
    refine ⟨_, rfl, _, rfl, _, rfl, p, d, c.1, S, c.2, rfl, hk.same s03, W, W.room hcS (s3 _ _ (hRI c (List.mem_of_getElem? hc))), hcS, by omega, fun e M H4 he hM hRM hMn s4 => ?_⟩
    have len2 : (nm L).length + (nm M).length ≤ 61 := by
      have h1 := bnd (i + 1)
      rw [flat_take (sub S) hci, List.length_append] at h1
      rw [hL, hMn, List.length_cons]
      omega
    rw [nm_len, nm_len] at len2
    refine ⟨a', e, _, _, rfl, rfl, s4 _ _ ha', hM, Nat.le_of_lt (small1000 (by rw [rf_len, rf_len]; omega)), fun u hu => ?_⟩
    have s5 := same_new hu (.lst (rf L ++ rf M))
    refine ⟨u, L ++ M, _, rfl, (s03.trans s4).free hu, by rw [upd_same, rf_append], rows_same (rows_append (rows_same hRL s4) hRM) s5, ?_, (s3.trans s4).trans s5⟩
    rw [nm_append, hL, hMn, flat_take (sub S) hci, List.cons_append]
  · rintro σ H3 ⟨a', L, v, rfl, ha0, ha', hRL, hL, s3⟩
    refine ⟨_, rfl, q a' L H3 ha0 ha' hRL ?_ (s02.trans s3)⟩
    have e : (rf I).length = (inside S r).length := by rw [rf_len, ← nm_len, hIn]
    rw [hL, tot, e, List.take_of_length_le (Nat.le_refl _)]
theorem down_none {f : Addr} {fd : FuncData} {C : Addr} : FnOk P w K mg base CX0 4 f fd ["_law_rooms", "_law_one"] (spDown C 0) := by
  have no : ∀ vs H Q E, ¬ spDown C 0 vs H Q E := fun vs H Q E h => by
    obtain ⟨p, d, t, S, r, _, _, W, ht, _, hn, _⟩ := h
    have := ht.2.2
    omega
  exact ⟨fun vs H Q E h => absurd h (no vs H Q E), fun A outer s H args us vs Q E _ _ _ _ h => absurd h (no vs H Q E)⟩
theorem ok_down {f g : Addr} {fd gd : FuncData} {C : Addr} (D : Df K mg "_law_down" sDown ["_law_rooms", "_law_one"] f fd) (DI : Mt K C "inside" "Rooms.inside" sInside ["self", "room"] g gd) (GI : FnOk P w K mg base CX0 4 g gd ["self", "room"] (spOne C inside)) (T : Kl K mg C) :
    ∀ n : Nat, FnOk P w K mg base CX0 (4 + n) f fd ["_law_rooms", "_law_one"] (spDown C n)
  | 0 => down_none
  | n + 1 => ok_down1 D (ok_down D DI GI T n) DI GI T
end
end Ho
end

section
set_option Elab.async false
set_option linter.all false
set_option maxRecDepth 100000
set_option maxHeartbeats 2000000
/-! K7b: one room is right. -/
namespace Ho
open PySem PySem.Spec PyProof.Rows L2
theorem over_ok {r u : Rm} (h : RmOk r) (hu : u ∈ over r) : RmOk u := by
  unfold over at hu
  obtain ⟨n, _, rfl⟩ := List.mem_map.mp hu
  exact fun z hz => h z (List.mem_of_mem_take hz)
theorem over_len (r : Rm) : (over r).length = r.length := by unfold over; rw [List.length_map, List.length_range]
theorem filter_take {B : Type} {f : B → Bool} {S : List B} {j : Nat} {q : B} (h : S[j]? = some q) : (S.take (j + 1)).filter f = (S.take j).filter f ++ (if f q = true then [q] else []) := by
  rw [List.take_add_one, h, List.filter_append]
  show _ ++ [q].filter f = _
  rw [List.filter_cons, List.filter_nil]
def spRight (C : Addr) : Sp := fun vs H Q _ => ∃ (p d t : Addr) (S : List Rm) (r : Rm), vs = [.ref p, .ref t] ∧ KnF C H p d S ∧ Tr S ∧ RoomIn H t r ∧ r ∈ S ∧ ∀ H', Same H H' → Q (.bl true) H'
/-- the methods that the law calls -/
structure Ms (P : Program) (w : World) (K : PySem.W.Frag) (mg : Str → Option Value) (base : Heap) (C : Addr) (fI fB fO fE fR : Addr) (dI dB dO dE dR : FuncData) : Prop where
  I : Mt K C "inside" "Rooms.inside" sInside ["self", "room"] fI dI
  B : Mt K C "beneath" "Rooms.beneath" sBeneath ["self", "room"] fB dB
  O : Mt K C "over" "Rooms.over" sOver ["self", "room"] fO dO
  E : Mt K C "ends" "Rooms.ends" sEnds ["self"] fE dE
  R : Mt K C "rooms" "Rooms.rooms" sRooms ["self"] fR dR
  GI : FnOk P w K mg base CX0 4 fI dI ["self", "room"] (spOne C inside)
  GB : FnOk P w K mg base CX0 4 fB dB ["self", "room"] (spOne C beneath)
  GO : FnOk P w K mg base CX0 4 fO dO ["self", "room"] (spOne C fun _ r => over r)
  GE : FnOk P w K mg base CX0 5 fE dE ["self"] (spEnds C)
  GR : FnOk P w K mg base CX0 1 fR dR ["self"] (spRooms C)
section
variable {P : Program} {w : World} {K : PySem.W.Frag} {mg : Str → Option Value} {base : Heap}
theorem scRight : FnScope ["_law_rooms", "_law_one", "_law_within", "_law_room", "_law_due", "_law_found", "_law_upper"] ["_law_rooms", "_law_one"] (defScope sOneRight) := ⟨rfl, rfl, rfl, by decide +kernel, rfl, by decide +kernel, by decide +kernel⟩
theorem ok_right {f fI fB fO fE fR : Addr} {fd dI dB dO dE dR : FuncData} {C : Addr} (D : Df K mg "_law_one_right" sOneRight ["_law_rooms", "_law_one"] f fd) (M : Ms P w K mg base C fI fB fO fE fR dI dB dO dE dR) (T : Kl K mg C) (B : Bu mg) : FnOk P w K mg base CX0 6 f fd ["_law_rooms", "_law_one"] (spRight C) := by
  refine D.F.ok scRight (fun vs H Q E h => ?_) (fun cdv A outer s H vs Q E hr h => ?_)
  · obtain ⟨p, d, t, S, r, rfl, _⟩ := h
    rfl
  obtain ⟨p, d, t, S, r, rfl, hk, W, ht, hm, q⟩ := h
  have nd := scRight.nd
  have hr4 : Room 4 _ := hr.mono (by decide)
  refine ⟨_, pss_cons (ps_set (i := 2) nd rfl (Or.inl rfl) (pe_lst pa_nil))
    (pss_cons (ps_for PassesOwn.never rfl (pi_list (pe_meth (pv 0) T.cl M.I.m M.GI hr4 M.I.b .nil pass0 (pa_cons (pv 1) pa_nil))) (pg_name (i := 3) nd rfl (Or.inl rfl))
      (pss_cons (ps_set (i := 2) nd rfl (Or.inl rfl) (pe_op op_cat (pe_op op_cat (pv 2) (pe_lst (pa_cons (pv 3) pa_nil))) (pe_meth (pv 0) T.cl M.B.m M.GB hr4 M.B.b .nil pass0 (pa_cons (pv 3) pa_nil))))
      (pss_one (ps_if (pt_cmpR (op_neD hr.units) (pe_meth (pv 0) T.cl M.O.m M.GO hr4 M.O.b .nil pass0 (pa_cons (pv 3) pa_nil)) (pe_op op_cat (pe_meth (pv 0) T.cl M.O.m M.GO hr4 M.O.b .nil pass0 (pa_cons (pv 1) pa_nil)) (pe_lst (pa_cons (pv 1) pa_nil))) (nomark _)) (pss_one (ps_ret pe_bl)) pss_nil))))
    (pss_cons (ps_if (pt_cmpR (op_neD hr.units) (pe_callB (r := rSortedR K) (cr_sortedR hr.units) (by rfl) B.sorted (by decide +kernel) (pa_cons (pv 2) pa_nil)) (pe_meth (pv 0) T.cl M.B.m M.GB hr4 M.B.b .nil pass0 (pa_cons (pv 1) pa_nil)) (nomark _)) (pss_one (ps_ret pe_bl)) pss_nil)
    (pss_cons (ps_setLc (i := 4) (own := [("_law_room", 3)]) (g := gName 3) rfl nd rfl rfl (sw_true rfl rfl rfl (by decide +kernel)) (pi_list (pe_meth0 (pv 0) T.cl M.E.m M.GE hr M.E.b .nil pass0)) (blkOk_by (own := [("_law_room", 3)]) (N := ["_law_rooms", "_law_one", "_law_within", "_law_room", "_law_due", "_law_found", "_law_upper"]) (sc := defScope sOneRight) (by decide +kernel))
          (fun _ _ _ _ _ => pg_name (i := 3) nd rfl (Or.inl rfl))
          (fun _ _ _ _ _ => pts_one (PW.pt (pw_and (pt_cmpR (r := rEqD K) (op_eqD hr.units) (pe_slice (r := rSlA K) sl_tupA (pv 3) po_none (po_some (pe_callB (r := rLen K) call_len_seq (by rfl) B.len PySem.boot_len (pa_cons (pv 1) pa_nil)))) (pv 1) (nomark _)) (pw_and1 (pt_cmpR (r := rNeD K) (op_neD hr.units) (pv 3) (pv 1) (nomark _))))))
          (fun _ _ _ _ _ => pv 3))
    (pss_cons (ps_set (i := 5) nd rfl (Or.inl rfl) (pe_lst pa_nil))
    (pss_cons (ps_for PassesOwn.never rfl (pi_list (pv 4)) (pg_name (i := 3) nd rfl (Or.inl rfl))
      (pss_one (ps_set (i := 5) nd rfl (Or.inl rfl) (pe_op op_cat (pv 5) (pe_lc (own := [("_law_upper", 6)]) (g := gName 6) rfl nd (pi_list (pe_op op_cat (pe_meth (pv 0) T.cl M.O.m M.GO hr4 M.O.b .nil pass0 (pa_cons (pv 3) pa_nil)) (pe_lst (pa_cons (pv 3) pa_nil)))) (blkOk_by (own := [("_law_upper", 6)]) (N := ["_law_rooms", "_law_one", "_law_within", "_law_room", "_law_due", "_law_found", "_law_upper"]) (sc := defScope sOneRight) (by decide +kernel))
          (fun _ _ _ _ _ => pg_name (i := 6) nd rfl (Or.inl rfl))
          (fun _ _ _ _ _ => pts_one (pt_cmpR op_gt (pe_callB (r := rLen K) call_len_seq (by rfl) B.len PySem.boot_len (pa_cons (pv 6) pa_nil)) (pe_callB (r := rLen K) call_len_seq (by rfl) B.len PySem.boot_len (pa_cons (pv 1) pa_nil)) (nomark _)))
          (fun _ _ _ _ _ => pv 6))))))
    (pss_one (ps_ret (pe_cmpR (op_eqD hr.units) (pe_callB (r := rSortedSet P w) (cr_sortedSet rfl hr.units) (by rfl) B.sorted (by decide +kernel) (pa_cons (pe_callTy (r := rSetR K P w) (cr_setR rfl hr.units) (by rfl) B.set (by decide +kernel) (pa_cons (pv 5) pa_nil)) pa_nil)) (pe_meth (pv 0) T.cl M.B.m M.GB hr4 M.B.b .nil pass0 (pa_cons (pv 1) pa_nil)) (nomark _))))))))), ?_⟩
  refine ⟨Nat.zero_le _, fun a ha => ?_⟩
  have s1 := same_new ha (.lst (rf []))
  have ha1 : upd H a (.lst (rf [])) a = some (.lst (rf [])) := upd_same
  have hk1 := hk.same s1
  have ht1 := ht.same s1
  show ∃ x, _
  obtain ⟨dx, o, h1, h2⟩ := id hk1
  refine ⟨_, rfl, p, dx, _, rfl, h1, kf_no d (by decide +kernel), _, rfl, p, d, t, S, r, rfl, hk1, W, ht1, hm, fun b I H2 hb hI hRI hIn s2 => ?_⟩
  have s02 := s1.trans s2
  have ha2 := s2 _ _ ha1
  have lI : I.length ≤ 61 := by rw [← nm_len, hIn]; exact W.inside_len r
  have tot := within_eq slt_to W.tree hm
  have bnd : ∀ i, (((inside S r).take i).flatMap (fun c => c :: beneath S c)).length ≤ 61 := fun i => by
    have h1 := flat_le (fun c => c :: beneath S c) (inside S r) i
    have h2 : (beneath S r).length ≤ 61 := W.sub_len _ rfl
    rw [tot] at h1
    omega
  have okB : ∀ r, ∀ u ∈ beneath S r, RmOk u := fun r u hu => W.ok u (beneath_sub hu)
  refine ⟨b, rfl, ⟨_, SqL.of hI⟩, for_list (K := K) (a := b) (xs := rf I) (fun i σ H' => ∃ (a' : Addr) (L : Rw) (v : Option V), σ = [some (.ref p), some (.ref t), some (.ref a'), v, none, none, none] ∧ H' a' = some (.lst (rf L)) ∧ RowsIn H' L ∧ nm L = ((inside S r).take i).flatMap (fun c => c :: beneath S c) ∧ Same H2 H')
    ⟨a, [], none, rfl, ha2, (fun p hp => nomatch hp), rfl, Same.refl _⟩ (fun i σ H' _ ⟨_, _, _, _, _, _, _, s⟩ => s.seq (SqL.of hI)) ?_ ?_⟩
  · rintro i y σ H3 hi ⟨a', L, v, rfl, ha', hRL, hL, s3⟩
    obtain ⟨c, hc, rfl⟩ := rf_get hi
    have hci : (inside S r)[i]? = some c.2 := by rw [← hIn]; exact nm_at hc
    have hcm := List.mem_of_getElem? hci
    have hcS := inside_sub hcm
    have s03 := s02.trans s3
    have hc3 := s3 _ _ (hRI c (List.mem_of_getElem? hc))
    have len2 : L.length + (1 + (beneath S c.2).length) ≤ 61 := by
      have h1 := bnd (i + 1)
      rw [flat_take _ hci, List.length_append, List.length_cons] at h1
      rw [← nm_len, hL]
      omega
    refine ⟨_, rfl, _, rfl, by show 1 ≤ sizeLine; decide, fun e1 he1 => ?_⟩
    have s4 := same_new he1 (.lst (rf [c]))
    refine ⟨a', e1, _, _, rfl, rfl, s4 _ _ ha', upd_same (o := .lst (rf [c])), Nat.le_of_lt (small1000 (by rw [rf_len]; show L.length + 1 ≤ 1000; omega)), fun e2 he2 => ?_⟩
    have s5 := same_new he2 (.lst (rf L ++ rf [c]))
    have s35 := s4.trans s5
    have he3 : upd (upd H3 e1 (.lst (rf [c]))) e2 (.lst (rf L ++ rf [c])) e2 = some (.lst (rf (L ++ [c]))) := by rw [upd_same, rf_append]
    show ∃ x, _
    have s05 := s03.trans s35
    have h1' := s35 _ _ (s3 _ _ (s2 _ _ h1))
    refine ⟨_, rfl, p, dx, _, rfl, h1', kf_no d (by decide +kernel), _, rfl, p, d, c.1, S, c.2, rfl, hk.same s05, W, W.room hcS (s35 _ _ hc3), hcS, fun e4 B4 H6 he4 hB hRB hBn s6 => ?_⟩
    have lB : B4.length = (beneath S c.2).length := by rw [← nm_len, hBn]
    refine ⟨e2, e4, _, _, rfl, rfl, s6 _ _ he3, hB, Nat.le_of_lt (small1000 (by rw [rf_len, rf_len, List.length_append, List.length_singleton]; omega)), fun e5 he5 => ?_⟩
    have s7 := same_new he5 (.lst (rf (L ++ [c]) ++ rf B4))
    have he5' : upd H6 e5 (.lst (rf (L ++ [c]) ++ rf B4)) e5 = some (.lst (rf (L ++ [c] ++ B4))) := by rw [upd_same, rf_append]
    have s37 := (s35.trans s6).trans s7
    have hR7 : RowsIn (upd H6 e5 (.lst (rf (L ++ [c]) ++ rf B4))) (L ++ [c] ++ B4) := by
      refine rows_append (rows_append (rows_same hRL s37) fun u hu => ?_) (rows_same hRB s7)
      rw [List.mem_singleton.mp hu]
      exact s37 _ _ hc3
    have hn7 : nm (L ++ [c] ++ B4) = ((inside S r).take (i + 1)).flatMap (fun c => c :: beneath S c) := by
      rw [nm_append, nm_append, hL, hBn, flat_take _ hci, List.append_assoc] <;> rfl
    generalize upd H6 e5 (.lst (rf (L ++ [c]) ++ rf B4)) = H7 at s7 he5' s37 hR7 ⊢
    have s07 := s03.trans s37
    have h1'' := s37 _ _ (s3 _ _ (s2 _ _ h1))
    show ∃ x, _
    refine ⟨_, rfl, p, dx, _, rfl, h1'', kf_no d (by decide +kernel), _, rfl, p, d, c.1, S, c.2, rfl, hk.same s07, W, W.room hcS (s37 _ _ hc3), hcS, fun o1 O1 H8 ho1 hO1 hRO1 hOn1 s8 => ?_⟩
    have s08 := s07.trans s8
    refine ⟨_, rfl, p, dx, _, rfl, s8 _ _ h1'', kf_no d (by decide +kernel), _, rfl, p, d, t, S, r, rfl, hk.same s08, W, ht.same s08, hm, fun o2 O2 H9 ho2 hO2 hRO2 hOn2 s9 => ?_⟩
    refine ⟨_, rfl, by show 1 ≤ sizeLine; decide, fun o3 ho3 => ?_⟩
    have s10 := same_new ho3 (.lst (rf [(t, r)]))
    have lO2 : O2.length = r.length := by rw [← nm_len, hOn2, over_len]
    have r4 := ht.2.2
    refine ⟨o2, o3, _, _, rfl, rfl, s10 _ _ hO2, upd_same (o := .lst (rf [(t, r)])), Nat.le_of_lt (small1000 (by rw [rf_len]; show O2.length + 1 ≤ 1000; omega)), fun o4 ho4 => ?_⟩
    have s11 := same_new ho4 (.lst (rf O2 ++ rf [(t, r)]))
    have s711 := ((s8.trans s9).trans s10).trans s11
    have s911 := s10.trans s11
    have ho4' : upd (upd H9 o3 (.lst (rf [(t, r)]))) o4 (.lst (rf O2 ++ rf [(t, r)])) o4 = some (.lst (rf (O2 ++ [(t, r)]))) := by rw [upd_same, rf_append]
    have hR11 : RowsIn (upd (upd H9 o3 (.lst (rf [(t, r)]))) o4 (.lst (rf O2 ++ rf [(t, r)]))) (O2 ++ [(t, r)]) := by
      refine rows_append (rows_same hRO2 s911) fun u hu => ?_
      rw [List.mem_singleton.mp hu]
      exact (s07.trans s711) _ _ ht.1
    have okc := W.ok _ hcS
    have okr := W.ok _ hm
    have e12 : nm O1 = nm (O2 ++ [(t, r)]) := by rw [nm_append, hOn1, hOn2]; exact over_inside hcm
    refine ⟨_, _, (rows_same hRO1 (s9.trans s911)).list (SqL.of ((s9.trans s911) _ _ hO1)), hR11.list (SqL.of ho4'), shaped_rooms (fun u hu => ?_), shaped_rooms (fun u hu => ?_), _, rfl, ?_⟩
    · rw [hOn1] at hu
      exact over_ok okc hu
    · rw [← e12, hOn1] at hu
      exact over_ok okc hu
    · rw [eqv_rooms, decide_eq_true e12]
      refine iteF ⟨e5, L ++ [c] ++ B4, _, rfl, s711 _ _ he5', rows_same hR7 s711, hn7, ((s3.trans s37).trans s711)⟩
  · rintro σ H3 ⟨a', L, v, rfl, ha', hRL, hL, s3⟩
    have e : (rf I).length = (inside S r).length := by rw [rf_len, ← nm_len, hIn]
    rw [e, List.take_of_length_le (Nat.le_refl _), tot] at hL
    have s03 := s02.trans s3
    refine ⟨_, rfl, a', L, rfl, SqL.of ha', hRL, fun L1 l1 pm1 so1 hl1 => ?_⟩
    have s4 := same_new hl1 (.lst (L1.map fun q => V.ref q.1))
    have hl1' : upd H3 l1 (.lst (L1.map fun q => V.ref q.1)) l1 = some (.lst (rf L1)) := upd_same
    have hR4 : RowsIn (upd H3 l1 (.lst (L1.map fun q => V.ref q.1))) L1 := fun u hu => s4 _ _ (hRL u (pm1.mem_iff.mp hu))
    generalize upd H3 l1 (.lst (L1.map fun q => V.ref q.1)) = H4 at s4 hl1' hR4 ⊢
    have n1 : nm L1 = beneath S r := by
      have pm : (nm L1).Perm (beneath S r) := by rw [← hL]; exact pm1.map (·.2)
      have nd1 : (nm L1).Nodup := pm.nodup_iff.mpr (ris_nodup rm_to (ris_beneath W.tree r))
      exact ris_ext rm_to (ris_of_le rm_to nd1 so1) (ris_beneath W.tree r) fun x => pm.mem_iff
    have s04 := s03.trans s4
    have hp : ∀ {H' : Hp}, Same H H' → H' p = some (.ins C dx (kf d)) := fun {H'} s => by
      obtain ⟨dx', o', g1, g2⟩ := id hk
      have e := (s1 _ _ g1).symm.trans h1
      rw [e] at g1
      exact s _ _ ((g1 : H p = _).trans rfl)
    refine ⟨_, rfl, p, dx, _, rfl, hp s04, kf_no d (by decide +kernel), _, rfl, p, d, t, S, r, rfl, hk.same s04, W, ht.same s04, hm, fun e5 B5 H5 he5 hB5 hRB5 hBn5 s5 => ?_⟩
    have s05 := s04.trans s5
    refine ⟨_, _, (rows_same hR4 s5).list (SqL.of (s5 _ _ hl1')), hRB5.list (SqL.of hB5), shaped_rooms (by rw [n1]; exact okB r), shaped_rooms (by rw [hBn5]; exact okB r), _, rfl, ?_⟩
    rw [eqv_rooms, decide_eq_true (n1.trans hBn5.symm)]
    refine iteF ?_
    -- the ends beneath
    refine ⟨_, rfl, p, dx, _, rfl, hp s05, kf_no d (by decide +kernel), p, d, S, rfl, hk.same s05, W, fun e6 E6 H6 he6 hE6 hRE6 hEn6 s6 => ?_⟩
    have s06 := s05.trans s6
    refine ⟨e6, rfl, ⟨_, SqL.of hE6⟩, fun D hD => ?_⟩
    refine lc_list (K := K) (a := e6) (xs := rf E6) (fun j H' => ∃ L : Rw, H' D = some (.lst (rf L)) ∧ RowsIn H' L ∧ nm L = ((ends S).take j).filter (fun o => decide (o.take r.length = r) && decide (o ≠ r)) ∧ Same H6 H') ⟨[], upd_same, (fun p hp => nomatch hp), by simp <;> rfl, same_new hD _⟩ (fun i H' _ ⟨_, _, _, _, s⟩ => SqL.of (s _ _ hE6)) ?_ ?_
    · rintro j y H7 hy ⟨L2, hD2, hR2, hL2, s7⟩
      obtain ⟨c, hc, rfl⟩ := rf_get hy
      have hu : (ends S)[j]? = some c.2 := by rw [← hEn6]; exact nm_at hc
      have hb := s7 _ _ (hRE6 c (List.mem_of_getElem? hc))
      have oku := W.ok c.2 (ends_sub (List.mem_of_getElem? hu))
      have okd : RmOk (c.2.take (r.map V.str).length) := fun z hz => oku z (List.mem_of_mem_take hz)
      have lenL : L2.length ≤ 61 := by
        rw [← nm_len, hL2]
        refine Nat.le_trans (List.length_filter_le _ _) ?_
        rw [List.length_take]
        have : (ends S).length ≤ 61 := W.sub_len _ rfl
        omega
      have ht7 := (s06.trans s7) _ _ ht.1
      refine ⟨rfl, _, rfl, _, rfl, t, _, rfl, .inr (SqT.of ht7), _, rfl, slA_take (r.map V.str).length hb fun b2 H8 s8 hb2 => ⟨_, rfl, _, _, room_dp hb2, room_dp (s8 _ _ ht7), shaped_room okd, shaped_room ht.2.1, _, rfl, ?_⟩⟩
      rw [eqv_room, List.length_map]
      have hD3 := s8 _ _ hD2
      have hR3 := rows_same hR2 s8
      have s13 := s7.trans s8
      have step := filter_take (f := fun o => decide (o.take r.length = r) && decide (o ≠ r)) hu
      refine ite2 (fun c1 => ?_) (fun c1 => ?_)
      · refine ⟨_, rfl, _, rfl, _, _, room_dp (s8 _ _ hb), room_dp (s8 _ _ ht7), shaped_room oku, shaped_room ht.2.1, _, rfl, ?_⟩
        rw [eqv_room]
        have c1 := of_decide_eq_true c1
        refine ite2 (fun c2 => ?_) (fun c2 => ?_)
        · have c2 : c.2 ≠ r := fun z => by rw [decide_eq_true z] at c2; exact absurd c2 (by decide)
          refine ⟨_, rfl, _, hD3, small1000 (by rw [rf_len]; omega), L2 ++ [(c.1, c.2)], by rw [upd_same, rf_snoc], rows_snoc hR3 hD3 (s8 _ _ hb), ?_, fun b o e => by rw [upd_ne (ne_of_none e hD)]; exact s13 b o e⟩
          rw [nm_snoc, hL2, step, if_pos (by rw [decide_eq_true c1, decide_eq_true c2] <;> rfl)]
        · have c2 : ¬ (c.2 ≠ r) := fun z => by rw [decide_eq_false z] at c2; exact c2 rfl
          refine ⟨L2, hD3, hR3, ?_, s13⟩
          rw [hL2, step, if_neg (by rw [decide_eq_false c2, Bool.and_false]; exact Bool.false_ne_true), List.append_nil]
      · have c1 := fun z => c1 (decide_eq_true z)
        refine iteF ⟨L2, hD3, hR3, ?_, s13⟩
        rw [hL2, step, if_neg (by rw [decide_eq_false c1, Bool.false_and]; exact Bool.false_ne_true), List.append_nil]
    rintro H7 ⟨Du, hD7, hR7, hL7, s7⟩
    have e : (rf E6).length = (ends S).length := by rw [rf_len, ← nm_len, hEn6]
    rw [e, List.take_of_length_le (Nat.le_refl _)] at hL7
    have hL7 : nm Du = due S r := hL7
    have s07 := s06.trans s7
    have lDu : Du.length ≤ 61 := by
      rw [← nm_len, hL7]
      refine Nat.le_trans (List.length_filter_le _ _) ?_
      exact W.sub_len _ rfl
    -- found
    refine ⟨Nat.zero_le _, fun g hg => ?_⟩
    have s8 := same_new hg (.lst [])
    have hg8 : upd H7 g (.lst []) g = some (.lst (rf [])) := upd_same
    have hD8 := s8 _ _ hD7
    have hR8 := rows_same hR7 s8
    have s08 := s07.trans s8
    generalize upd H7 g (.lst []) = H8 at s8 hg8 hD8 hR8 s08 ⊢
    refine ⟨_, rfl, D, rfl, ⟨_, SqL.of hD8⟩, for_list (K := K) (a := D) (xs := rf Du) (fun i σ H' => ∃ (g' : Addr) (L3 : Rw) (v : Option V), σ = [some (.ref p), some (.ref t), some (.ref a'), v, some (.ref D), some (.ref g'), none] ∧ H' g' = some (.lst (rf L3)) ∧ RowsIn H' L3 ∧ nm L3 = ((due S r).take i).flatMap (fun e => (over e ++ [e]).filter fun u => decide (r.length < u.length)) ∧ L3.length ≤ 5 * i ∧ Same H8 H')
      ⟨g, [], v, rfl, hg8, (fun p hp => nomatch hp), rfl, Nat.le_refl _, Same.refl _⟩ (fun i σ H' _ ⟨_, _, _, _, _, _, _, _, s⟩ => s.seq (SqL.of hD8)) ?_ ?_⟩
    · rintro i y σ H9 hi ⟨g', L3, v, rfl, hg', hR3, hL3, l3, s9⟩
      obtain ⟨c, hc, rfl⟩ := rf_get hi
      have hi61 := (List.getElem?_eq_some_iff.mp hc).1
      have hci : (due S r)[i]? = some c.2 := by rw [← hL7]; exact nm_at hc
      have hcS : c.2 ∈ S := ends_sub (List.mem_filter.mp (List.mem_of_getElem? hci)).1
      have s09 := s08.trans s9
      have hc9 := s9 _ _ (hR8 c (List.mem_of_getElem? hc))
      have hcr := W.room hcS hc9
      refine ⟨_, rfl, _, rfl, p, dx, _, rfl, hp s09, kf_no d (by decide +kernel), _, rfl, p, d, c.1, S, c.2, rfl, hk.same s09, W, hcr, hcS, fun o1 O1 H10 ho1 hO1 hRO1 hOn1 s10 => ?_⟩
      have lO1 : O1.length ≤ 4 := by rw [← nm_len, hOn1, over_len]; exact hcr.2.2
      refine ⟨_, rfl, by show 1 ≤ sizeLine; decide, fun o3 ho3 => ?_⟩
      have s11 := same_new ho3 (.lst [V.ref c.1])
      refine ⟨o1, o3, _, _, rfl, rfl, s11 _ _ hO1, upd_same (o := .lst (rf [c])), Nat.le_of_lt (small1000 (by rw [rf_len]; show O1.length + 1 ≤ 1000; omega)), fun o4 ho4 => ?_⟩
      have s12 := same_new ho4 (.lst (rf O1 ++ rf [c]))
      have s1012 := s11.trans s12
      have ho4' : upd (upd H10 o3 (.lst [V.ref c.1])) o4 (.lst (rf O1 ++ rf [c])) o4 = some (.lst (rf (O1 ++ [c]))) := by rw [upd_same, rf_append]
      have hR12 : RowsIn (upd (upd H10 o3 (.lst [V.ref c.1])) o4 (.lst (rf O1 ++ rf [c]))) (O1 ++ [c]) := by
        refine rows_append (rows_same hRO1 s1012) fun u hu => ?_
        rw [List.mem_singleton.mp hu]
        exact (s10.trans s1012) _ _ hc9
      have s912 := s10.trans s1012
      have n12 : nm (O1 ++ [c]) = over c.2 ++ [c.2] := by rw [nm_append, hOn1] <;> rfl
      have l12 : (O1 ++ [c]).length ≤ 5 := by rw [List.length_append, List.length_singleton]; omega
      generalize upd (upd H10 o3 (.lst [V.ref c.1])) o4 (.lst (rf O1 ++ rf [c])) = H12 at s1012 ho4' hR12 s912 ⊢
      generalize O1 ++ [c] = U at ho4' hR12 n12 l12
      refine ⟨o4, rfl, ⟨_, SqL.of ho4'⟩, fun D2 hD2 => ?_⟩
      have s012 := s09.trans s912
      refine lc_list (K := K) (a := o4) (xs := rf U) (fun j H' => ∃ L : Rw, H' D2 = some (.lst (rf L)) ∧ RowsIn H' L ∧ nm L = ((over c.2 ++ [c.2]).take j).filter (fun u => decide (r.length < u.length)) ∧ Same H12 H') ⟨[], upd_same, (fun p hp => nomatch hp), by simp <;> rfl, same_new hD2 _⟩ (fun i H' _ ⟨_, _, _, _, s⟩ => SqL.of (s _ _ ho4')) ?_ ?_
      · rintro j y H13 hy ⟨L4, hD4, hR4', hL4, s13⟩
        obtain ⟨u, hu, rfl⟩ := rf_get hy
        have huj : (over c.2 ++ [c.2])[j]? = some u.2 := by rw [← n12]; exact nm_at hu
        have hub := s13 _ _ (hR12 u (List.mem_of_getElem? hu))
        have hj := (List.getElem?_eq_some_iff.mp hu).1
        have lenL : L4.length ≤ j := by
          rw [← nm_len, hL4]
          refine Nat.le_trans (List.length_filter_le _ _) ?_
          rw [List.length_take]
          omega
        have step := filter_take (f := fun u : Rm => decide (r.length < u.length)) huj
        refine ⟨rfl, _, rfl, u.1, _, rfl, .inr (SqT.of hub), _, rfl, t, _, rfl, .inr (SqT.of ((s012.trans s13) _ _ ht.1)), _, _, rfl, rfl, _, rfl, ?_⟩
        refine ite2 (fun c1 => ?_) (fun c1 => ?_)
        · have c2 : (((r.map V.str).length : Nat) : Int) < (((u.2.map V.str).length : Nat) : Int) := of_decide_eq_true c1
          rw [List.length_map, List.length_map] at c2
          refine ⟨_, rfl, _, hD4, small1000 (by rw [rf_len]; omega), L4 ++ [(u.1, u.2)], by rw [upd_same, rf_snoc], rows_snoc hR4' hD4 hub, ?_, fun b o e => by rw [upd_ne (ne_of_none e hD2)]; exact s13 b o e⟩
          rw [nm_snoc, hL4, step, if_pos (decide_eq_true (by omega))]
        · have c2 : ¬ (((r.map V.str).length : Nat) : Int) < (((u.2.map V.str).length : Nat) : Int) := fun z => c1 (decide_eq_true z)
          rw [List.length_map, List.length_map] at c2
          refine ⟨L4, hD4, hR4', ?_, s13⟩
          rw [hL4, step, if_neg (fun z => c2 (by have := of_decide_eq_true z; omega)), List.append_nil]
      · rintro H13 ⟨L4, hD4, hR4', hL4, s13⟩
        have e2 : (rf U).length = (over c.2 ++ [c.2]).length := by rw [rf_len, ← nm_len, n12]
        rw [e2, List.take_of_length_le (Nat.le_refl _)] at hL4
        have s913 := s912.trans s13
        have l4 : L4.length ≤ 5 := by
          rw [← nm_len, hL4]
          refine Nat.le_trans (List.length_filter_le _ _) ?_
          rw [← n12, nm_len]
          exact l12
        refine ⟨g', D2, _, _, rfl, rfl, s913 _ _ hg', hD4, Nat.le_of_lt (small1000 (by rw [rf_len, rf_len]; omega)), fun g2 hg2 => ?_⟩
        have s14 := same_new hg2 (.lst (rf L3 ++ rf L4))
        refine ⟨g2, L3 ++ L4, _, rfl, by rw [upd_same, rf_append], rows_same (rows_append (rows_same hR3 s913) hR4') s14, ?_, by rw [List.length_append]; omega, (s9.trans s913).trans s14⟩
        rw [nm_append, hL3, hL4, flat_take _ hci]
    · rintro σ H9 ⟨g', L3, v, rfl, hg', hR3, hL3, l3, s9⟩
      have e3 : (rf Du).length = (due S r).length := by rw [rf_len, ← nm_len, hL7]
      rw [e3, List.take_of_length_le (Nat.le_refl _)] at hL3
      have hL3 : nm L3 = found S r := hL3
      have s09 := s08.trans s9
      have lB : (beneath S r).length ≤ 61 := W.sub_len _ rfl
      have memF : ∀ x, x ∈ nm L3 ↔ x ∈ beneath S r := fun x => by rw [hL3]; exact mem_found W.tree
      refine ⟨_, rfl, g', L3, beneath S r, rfl, SqL.of hg', hR3, by omega, fun u hu => (memF _).mp (List.mem_map.mpr ⟨u, hu, rfl⟩), fun sa L5 hsa hsub hcov hnd5 => ?_⟩
      have s10 := same_new hsa (SetO P w sa (kys L5))
      have mem5 : ∀ x, x ∈ L5.map (·.2) ↔ x ∈ beneath S r := fun x => by
        rw [← memF]
        constructor
        · intro hx
          obtain ⟨u, hu, e⟩ := List.mem_map.mp hx
          exact List.mem_map.mpr ⟨u, hsub u hu, e⟩
        · intro hx
          obtain ⟨u, hu, e⟩ := List.mem_map.mp hx
          rw [← e]
          exact hcov u hu
      have l5 : L5.length ≤ 61 := by
        rw [← List.length_map (f := (·.2)) (as := L5), len_mem hnd5 (ris_nodup rm_to (ris_beneath W.tree r)) mem5]
        exact lB
      refine ⟨sa, L5, rfl, upd_same, fun u hu => s10 _ _ (hR3 u (hsub u hu)), by omega, fun L6 l6 pm6 hnd6 hs6 hl6 => ?_⟩
      have s11 := same_new hl6 (.lst (L6.map fun q => V.ref q.1))
      have hl6' : upd (upd H9 sa (SetO P w sa (kys L5))) l6 (.lst (L6.map fun q => V.ref q.1)) l6 = some (.lst (rf L6)) := upd_same
      have hR6 : RowsIn (upd (upd H9 sa (SetO P w sa (kys L5))) l6 (.lst (L6.map fun q => V.ref q.1))) L6 := fun u hu => s11 _ _ (s10 _ _ (hR3 u (hsub u (pm6.mem_iff.mp hu))))
      have s011 := (s09.trans s10).trans s11
      generalize upd (upd H9 sa (SetO P w sa (kys L5))) l6 (.lst (L6.map fun q => V.ref q.1)) = H11 at s11 hl6' hR6 s011 ⊢
      have n6 : nm L6 = beneath S r := ris_ext rm_to (ris_of_le rm_to hnd6 hs6) (ris_beneath W.tree r) fun x => ((pm6.map (·.2)).mem_iff).trans (mem5 x)
      refine ⟨_, rfl, p, dx, _, rfl, hp s011, kf_no d (by decide +kernel), _, rfl, p, d, t, S, r, rfl, hk.same s011, W, ht.same s011, hm, fun e12 B12 H12 he12 hB12 hRB12 hBn12 s12 => ?_⟩
      refine ⟨_, _, (rows_same hR6 s12).list (SqL.of (s12 _ _ hl6')), hRB12.list (SqL.of hB12), shaped_rooms (by rw [n6]; exact okB r), shaped_rooms (by rw [hBn12]; exact okB r), ?_⟩
      rw [eqv_rooms, decide_eq_true (n6.trans hBn12.symm)]
      exact q H12 (s011.trans s12)
end
end Ho
end

section
set_option Elab.async false
set_option linter.all false
set_option maxRecDepth 100000
set_option maxHeartbeats 2000000
/-! K7c: the law. -/
namespace Ho
open PySem PySem.Spec PyProof.Rows L2
theorem unlock {H H' : Hp} {d : Addr} {u : HO} {od : Obj} (hd : H d = some u) (s : Same (upd H d (.frz od u)) H') : H' d = some (.frz od u) ∧ Same H (upd H' d u) := by
  refine ⟨s _ _ upd_same, fun b o e => ?_⟩
  by_cases h : b = d
  · subst h
    rw [upd_same, ← e, hd]
  · rw [upd_ne h]
    exact s b o (by rw [upd_ne h]; exact e)
theorem un_keep {H' : Hp} {d b : Addr} {u o : HO} {od : Obj} (hd : H' d = some (.frz od u)) (hb : H' b = some o) (hn : ∀ o' u', o ≠ .frz o' u') : upd H' d u b = some o := by
  rw [upd_ne fun e => ?_]
  · exact hb
  · rw [e, hd] at hb
    exact hn _ _ (Option.some.inj hb).symm
theorem un_lst {H' : Hp} {d b : Addr} {u : HO} {od : Obj} {xs : List V} (hd : H' d = some (.frz od u)) (hb : H' b = some (.lst xs)) : upd H' d u b = some (.lst xs) := un_keep hd hb fun _ _ z => nomatch z
theorem un_rows {H' : Hp} {d : Addr} {u : HO} {od : Obj} {L : Rw} (hd : H' d = some (.frz od u)) (h : RowsIn H' L) : RowsIn (upd H' d u) L := fun p hp => un_keep hd (h p hp) fun _ _ z => nomatch z
/-- Rooms at p, its dict at d free -/
def KnU (C : Addr) (H : Hp) (p d : Addr) (S : List Rm) : Prop := ∃ dx, H p = some (.ins C dx (kf d)) ∧ H d = some (.dT (kvr S))
theorem KnU.same {C : Addr} {H H' : Hp} {p d : Addr} {S : List Rm} (h : KnU C H p d S) (s : Same H H') : KnU C H' p d S := by
  obtain ⟨dx, h1, h2⟩ := h
  exact ⟨dx, s _ _ h1, s _ _ h2⟩
theorem KnU.at {C : Addr} {H : Hp} {p d : Addr} {S : List Rm} (h : KnU C H p d S) : H d = some (.dT (kvr S)) := by
  obtain ⟨dx, h1, h2⟩ := h
  exact h2
theorem KnU.lock {C : Addr} {H : Hp} {p d : Addr} {S : List Rm} (h : KnU C H p d S) (od : Obj) : KnF C (upd H d (.frz od (.dT (kvr S)))) p d S := by
  obtain ⟨dx, h1, h2⟩ := h
  exact ⟨dx, od, by rw [upd_ne (ne_of h1 h2 (fun z => nomatch z))]; exact h1, upd_same⟩
theorem lock_room {H : Hp} {d t : Addr} {u : HO} {od : Obj} {r : Rm} (h : RoomIn H t r) (hd : H d = some u) (hu : ∀ xs, u ≠ .tup xs) : RoomIn (upd H d (.frz od u)) t r := by
  refine ⟨?_, h.2⟩
  rw [upd_ne fun e => ?_]
  · exact h.1
  · have h1 := h.1
    rw [e, hd] at h1
    exact hu _ (Option.some.inj h1)
theorem lock_keep {H : Hp} {d b : Addr} {u o : HO} {od : Obj} (h : H b = some o) (hd : H d = some u) (hu : u ≠ o) : upd H d (.frz od u) b = some o := by
  rw [upd_ne fun e => ?_]
  · exact h
  · rw [e, hd] at h
    exact hu (Option.some.inj h)
theorem lock_rows {H : Hp} {d : Addr} {od : Obj} {S : List Rm} {L : Rw} (h : RowsIn H L) (hd : H d = some (.dT (kvr S))) : RowsIn (upd H d (.frz od (.dT (kvr S)))) L := fun p hp => lock_keep (h p hp) hd (fun z => nomatch z)
theorem KnU.but {C : Addr} {H H' : Hp} {p d st l : Addr} {S : List Rm} (h : KnU C H p d S) (hs : StAt H st l) (b : But st H H') : KnU C H' p d S := by
  obtain ⟨dx, h1, h2⟩ := h
  obtain ⟨ns, k, f, m, hs⟩ := hs
  exact ⟨dx, b _ _ h1 (ne_of h1 hs.1 fun z => nomatch z), b _ _ h2 (ne_of h2 hs.1 fun z => nomatch z)⟩
theorem good_perm {L M : List Rm} (h : M.Perm L) (G : Good L) : Good M where
  nd := h.nodup_iff.mpr G.nd
  ne := fun m => G.ne (h.mem_iff.mp m)
  up := fun t ht => by
    rcases G.up t (h.mem_iff.mp ht) with q | q
    · exact .inl (h.mem_iff.mpr q)
    · exact .inr q
  deep := fun t ht => G.deep t (h.mem_iff.mp ht)
theorem tr_of {L S : List Rm} (G : Good L) (ok : ∀ r ∈ L, RmOk r) (len : L.length ≤ 60) (h : Ris rmLt S) (hm : ∀ q, q ∈ S ↔ q = [] ∨ q ∈ L) : Tr S where
  tree := tree_of G h hm
  ok := fun r hr => by
    rcases (hm r).mp hr with rfl | q
    · exact fun z hz => nomatch hz
    · exact ok r q
  len := by
    rw [len_mem (ris_nodup rm_to h) (List.nodup_cons.mpr ⟨G.ne, G.nd⟩) (fun q => (hm q).trans List.mem_cons.symm), List.length_cons]
    omega
theorem beneath_len {S : List Rm} (W : Tr S) {r : Rm} (hr : r ∈ S) : (beneath S r).length ≤ 60 := by
  have e := sub_cons slt_to W.tree hr
  have l : (sub S r).length ≤ 61 := W.sub_len _ rfl
  rw [e, List.length_cons] at l
  omega
theorem KnF.lock2 {C : Addr} {H : Hp} {p d d2 : Addr} {S S2 : List Rm} {od2 : Obj} (h : KnF C H p d S) (h2 : H d2 = some (.dT (kvr S2))) : KnF C (upd H d2 (.frz od2 (.dT (kvr S2)))) p d S := by
  obtain ⟨dx, o, k1, k2⟩ := h
  exact ⟨dx, o, lock_keep k1 h2 (fun z => nomatch z), lock_keep k2 h2 (fun z => nomatch z)⟩
theorem KnU.lock1 {C : Addr} {H : Hp} {p d d2 : Addr} {S S2 : List Rm} {od : Obj} (h : KnU C H p d2 S2) (h1 : H d = some (.dT (kvr S))) (n : d2 ≠ d) : KnU C (upd H d (.frz od (.dT (kvr S)))) p d2 S2 := by
  obtain ⟨dx, k1, k2⟩ := h
  exact ⟨dx, lock_keep k1 h1 (fun z => nomatch z), by rw [upd_ne n]; exact k2⟩
theorem drop_ok {r : Rm} (n : Nat) (h : RmOk r) : RmOk (r.drop n) := fun z hz => h z (List.mem_of_mem_drop hz)
def spLaw (K : PySem.W.Frag) : Sp := fun vs H Q _ => ∃ (a : Addr) (ns : List Int), vs = [.ref a] ∧ SqL K H a (ns.map V.int) ∧ ns.length ≤ 63 ∧ ∀ H', Q (.bl true) H'
section
variable {P : Program} {w : World} {K : PySem.W.Frag} {mg : Str → Option Value} {base : Heap}
abbrev NL : List Str := ["_law_script", "_law_state", "_law_some", "_law_rooms", "_law_every", "_law_down_here", "_law_room", "_law_one", "_law_lesser", "_law_inner"]
theorem scLaw : FnScope NL ["_law_script"] (defScope sLaw) := ⟨rfl, rfl, rfl, by decide +kernel, rfl, by decide +kernel, by decide +kernel⟩
theorem ok_law {f fb ft fu fp fd' fg fn fI fB fO fE fR : Addr} {fd db dt du dp dd dg dn dI dB dO dE dR : FuncData} {C : Addr} {v0 : V} (D : Df K mg "law" sLaw ["_law_script"] f fd)
    (Db : Df K mg "_law_begin" sBegin ["_law_script"] fb db) (Gb : FnOk P w K mg base CX0 1 fb db ["_law_script"] (spBegin K))
    (Dt : Df K mg "_law_tree" sTree ["_law_state"] ft dt) (Gt : FnOk P w K mg base CX0 6 ft dt ["_law_state"] spTree)
    (Du : Df K mg "_law_turned" sTurned ["_law_state", "_law_some"] fu du) (Gu : FnOk P w K mg base CX0 3 fu du ["_law_state", "_law_some"] spTurned)
    (Dp : Df K mg "_law_pick" sPick ["_law_state", "_law_some"] fp dp) (Gp : FnOk P w K mg base CX0 3 fp dp ["_law_state", "_law_some"] (spPick K))
    (Dd : Df K mg "_law_down" sDown ["_law_rooms", "_law_one"] fd' dd) (Gd : FnOk P w K mg base CX0 9 fd' dd ["_law_rooms", "_law_one"] (spDown C 5))
    (Dg : Df K mg "_law_one_right" sOneRight ["_law_rooms", "_law_one"] fg dg) (Gg : FnOk P w K mg base CX0 6 fg dg ["_law_rooms", "_law_one"] (spRight C))
    (Mk' : Mk K C fn) (bn : Binds K dn ["self", "rooms"] []) (Gn : FnOk P w K mg base CX0 4 fn dn ["self", "rooms"] (spInit C))
    (M : Ms P w K mg base C fI fB fO fE fR dI dB dO dE dR) (T : Kl K mg C) (B : Bu mg) : FnOk P w K mg base CX0 10 f fd ["_law_script"] (spLaw K) := by
  refine D.F.ok scLaw (fun vs H Q E h => ?_) (fun cdv A outer s H vs Q E hr h => ?_)
  · obtain ⟨a, ns, rfl, _⟩ := h
    rfl
  obtain ⟨a, ns, rfl, hS, h63, q⟩ := h
  have nd := scLaw.nd
  have hr1 : Room 1 _ := hr.mono (by decide)
  have hr3 : Room 3 _ := hr.mono (by decide)
  have hr4 : Room 4 _ := hr.mono (by decide)
  have hr5 : Room 5 _ := hr.mono (by decide)
  have hr6 : Room 6 _ := hr.mono (by decide)
  refine ⟨_, pss_cons (ps_set (i := 1) nd rfl (Or.inl rfl) (pe_call Gb hr1 rfl Db.m Db.F.kp Db.b .nil pass0 (pa_cons (pv 0) pa_nil)))
    (pss_cons (ps_set (i := 2) nd rfl (Or.inl rfl) (pe_call Gt hr6 rfl Dt.m Dt.F.kp Dt.b .nil pass0 (pa_cons (pv 1) pa_nil)))
    (pss_cons (ps_set (i := 3) nd rfl (Or.inr rfl) (pe_make Mk' Gn hr5 rfl T.mg bn .nil pass0 (pa_cons (pe_call Gu hr3 rfl Du.m Du.F.kp Du.b .nil pass0 (pa_cons (pv 1) (pa_cons (pv 2) pa_nil))) pa_nil)))
    (pss_cons (ps_lock (ps_set (i := 4) nd rfl (Or.inl rfl) (pe_meth0 (pv 3) T.cl M.R.m M.GR hr1 M.R.b .nil pass0)))
    (pss_cons (ps_lock (ps_set (i := 5) nd rfl (Or.inl rfl) (pe_call Gd hr rfl Dd.m Dd.F.kp Dd.b .nil pass0 (pa_cons (pv 3) (pa_cons (pe_tup pa_nil) pa_nil)))))
    (pss_cons (ps_if (PW.pt (pw_or (pt_cmpR (op_neD hr.units) (pe_callB (r := rSortedR K) (cr_sortedR hr.units) (by rfl) B.sorted (by decide +kernel) (pa_cons (pv 5) pa_nil)) (pv 4) (nomark _)) (pw_or1 (pt_cmpR (op_neD hr.units) (pv 5) (pv 4) (nomark _))))) (pss_one (ps_ret pe_bl)) pss_nil)
    (pss_cons (ps_lock (ps_if (pt_cmpR (op_neD hr.units) (pe_lc (own := [("_law_room", 6)]) (g := gName 6) rfl nd (pi_list (pv 4)) (blkOk_by (own := [("_law_room", 6)]) (N := NL) (sc := defScope sLaw) (by decide +kernel))
          (fun _ _ _ _ _ => pg_name (i := 6) nd rfl (Or.inl rfl)) (fun _ _ _ _ _ => pts_one (pt_not (pt_val (pe_call Gg hr6 rfl Dg.m Dg.F.kp Dg.b .nil pass0 (pa_cons (pv 3) (pa_cons (pv 6) pa_nil)))))) (fun _ _ _ _ _ => pv 6)) (pe_lst pa_nil) (nomark _)) (pss_one (ps_ret pe_bl)) pss_nil))
    (pss_cons (ps_set (i := 7) nd rfl (Or.inr rfl) (pe_call Gp hr3 rfl Dp.m Dp.F.kp Dp.b .nil pass0 (pa_cons (pv 1) (pa_cons (pv 4) pa_nil))))
    (pss_cons (ps_lock (ps_set (i := 8) nd rfl (Or.inl rfl) (pe_make Mk' Gn hr5 rfl T.mg bn .nil pass0 (pa_cons (pe_lc (own := [("_law_room", 6)]) (g := gName 6) (tt := tYes) rfl nd (pi_list (pe_meth (pv 3) T.cl M.B.m M.GB hr4 M.B.b .nil pass0 (pa_cons (pv 7) pa_nil))) (blkOk_by (own := [("_law_room", 6)]) (N := NL) (sc := defScope sLaw) (by decide +kernel))
          (fun _ _ _ _ _ => pg_name (i := 6) nd rfl (Or.inl rfl)) (fun _ _ _ _ _ => pts_nil) (fun _ _ _ _ _ => pe_slice (r := rSlA K) sl_tupA (pv 6) (po_some (pe_callB (r := rLen K) call_len_seq (by rfl) B.len PySem.boot_len (pa_cons (pv 7) pa_nil))) po_none)) pa_nil))))
    (pss_cons (ps_lock (ps_lock (ps_for PassesOwn.never rfl (pi_list (pe_meth0 (pv 8) T.cl M.R.m M.GR hr1 M.R.b .nil pass0)) (pg_name (i := 6) nd rfl (Or.inl rfl))
      (pss_one (ps_if (pt_cmpR (op_neD hr.units) (pe_lc (own := [("_law_inner", 9)]) (g := gName 9) (tt := tYes) rfl nd (pi_list (pe_meth (pv 8) T.cl M.I.m M.GI hr4 M.I.b .nil pass0 (pa_cons (pv 6) pa_nil))) (blkOk_by (own := [("_law_inner", 9)]) (N := NL) (sc := defScope sLaw) (by decide +kernel))
          (fun _ _ _ _ _ => pg_name (i := 9) nd rfl (Or.inl rfl)) (fun _ _ _ _ _ => pts_nil) (fun _ _ _ _ _ => pe_op (r := rCatA K) op_catA (pv 7) (pv 9))) (pe_meth (pv 3) T.cl M.I.m M.GI hr4 M.I.b .nil pass0 (pa_cons (pe_op op_catA (pv 7) (pv 6)) pa_nil)) (nomark _)) (pss_one (ps_ret pe_bl)) pss_nil)))))
    (pss_one (ps_lock (ps_lock (ps_ret (pe_cmpR (op_eqD hr.units) (pe_lc (own := [("_law_room", 6)]) (g := gName 6) (tt := tYes) rfl nd (pi_list (pe_meth0 (pv 8) T.cl M.E.m M.GE hr5 M.E.b .nil pass0)) (blkOk_by (own := [("_law_room", 6)]) (N := NL) (sc := defScope sLaw) (by decide +kernel))
          (fun _ _ _ _ _ => pg_name (i := 6) nd rfl (Or.inl rfl)) (fun _ _ _ _ _ => pts_nil) (fun _ _ _ _ _ => pe_op (r := rCatA K) op_catA (pv 7) (pv 6)))
        (pe_lc (own := [("_law_room", 6)]) (g := gName 6) rfl nd (pi_list (pe_meth0 (pv 3) T.cl M.E.m M.GE hr5 M.E.b .nil pass0)) (blkOk_by (own := [("_law_room", 6)]) (N := NL) (sc := defScope sLaw) (by decide +kernel))
          (fun _ _ _ _ _ => pg_name (i := 6) nd rfl (Or.inl rfl)) (fun _ _ _ _ _ => pts_one (pt_cmpR (r := rEqD K) (op_eqD hr.units) (pe_slice (r := rSlA K) sl_tupA (pv 6) po_none (po_some (pe_callB (r := rLen K) call_len_seq (by rfl) B.len PySem.boot_len (pa_cons (pv 7) pa_nil)))) (pv 7) (nomark _))) (fun _ _ _ _ _ => pv 6)) (nomark _))))))))))))))), ?_⟩
  refine ⟨_, rfl, a, ns, rfl, hS, h63, fun st l H1 hS1 s1 => ?_⟩
  refine ⟨_, rfl, st, l, rfl, hS1, fun b L H2 hb hbL hRL hG h60 hok hS2 b2 => ?_⟩
  refine ⟨_, rfl, _, rfl, st, l, b, L, rfl, hS2, hbL, h60, fun c L' H3 hc hcL pm hS3 b3 => ?_⟩
  intro x dx hx hdx nex
  have s34 : Same H3 (upd (upd H3 dx (.own x)) x (.ins C dx [])) := fun b o e => by
    rw [upd_ne (ne_of_none e hx), upd_ne (ne_of_none e hdx)]
    exact e
  have hR3 : RowsIn H3 L' := fun p hp => rows_but hRL hS2 b3 p (pm.mem_iff.mp hp)
  have pm2 : (nm L').Perm (nm L) := List.Perm.map (fun p : Addr × Rm => p.2) pm
  have G' := good_perm pm2 hG
  have ok' : ∀ r ∈ nm L', RmOk r := fun r hr => hok r (pm2.mem_iff.mp hr)
  have l60' : L'.length ≤ 60 := by rw [pm.length_eq]; exact h60
  refine ⟨x, dx, c, L', rfl, upd_same, ⟨s34 _ _ hcL, rows_same hR3 s34, G', l60', ok'⟩, fun d S H5 hd5 hp5 hd5' ris mem k5 => ⟨rfl, ?_⟩⟩
  have nl : (nm L').length ≤ 60 := by rw [nm_len]; exact l60'
  have W := tr_of G' ok' nl ris mem
  have s35 : Same H3 H5 := fun b o e => k5 b o (s34 b o e) (ne_of_none e hx)
  have hS5 := hS3.same s35
  have hK5 : KnU C H5 x d S := ⟨dx, hp5, hd5'⟩
  clear k5 hp5 hd5' hd5 s34 hR3 pm2 G' ok' l60' nl mem pm hcL b3 hS3 hbL hRL hG h60 hok hS2 b2 hb hS1 s1 hS s35 hc
  -- every = rooms.rooms()
  have hx5 := hK5
  obtain ⟨dx, hx1, hd1⟩ := hx5
  refine ⟨d, _, hd1, trivial, fun od => ?_⟩
  obtain ⟨dx6, o6, hx6, hd6⟩ := hK5.lock od
  refine ⟨_, rfl, x, dx6, _, rfl, hx6, kf_no d (by decide +kernel), x, d, S, rfl, hK5.lock od, fun e4 Ev H6 he4 hEv hREv hEvn s6 => ?_⟩
  obtain ⟨fz6, s57⟩ := unlock hd1 s6
  refine ⟨fz6, ?_⟩
  have hEv := un_lst fz6 hEv
  have hREv := un_rows fz6 hREv
  generalize upd H6 d (.dT (kvr S)) = H7 at s57 hEv hREv ⊢
  have hK7 := hK5.same s57
  have hS7 := hS5.same s57
  clear hK5 hS5 s6 fz6 he4 hx6 hd6
  -- down_here = down(rooms, ())
  have hd7 := hK7.at
  refine ⟨d, _, hd7, trivial, fun od => ?_⟩
  refine ⟨_, rfl, by show 0 ≤ sizeLine; decide, fun t0 ht0 => ?_⟩
  have s8 := same_new ht0 (.tup [])
  have r0 : RoomIn (upd (upd H7 d (.frz od (.dT (kvr S)))) t0 (.tup [])) t0 [] := ⟨upd_same, (fun z hz => nomatch hz), Nat.zero_le _⟩
  refine ⟨x, d, t0, S, [], rfl, (hK7.lock od).same s8, W, r0, W.tree.whole, by decide, fun e5 Dn H9 he5 hDn hRDn hDnn s9 => ?_⟩
  rw [sub_whole] at hDnn
  obtain ⟨fz9, s710⟩ := unlock hd7 (s8.trans s9)
  refine ⟨fz9, ?_⟩
  have hDn := un_lst fz9 hDn
  have hRDn := un_rows fz9 hRDn
  generalize upd H9 d (.dT (kvr S)) = H10 at s710 hDn hRDn ⊢
  have hK10 := hK7.same s710
  have hS10 := hS7.same s710
  have hEv := s710 _ _ hEv
  have hREv := rows_same hREv s710
  clear hK7 hS7 s8 s9 fz9 he5 s57 ht0 r0 hd7
  -- if sorted(..) != every or ..
  refine ⟨_, rfl, e5, Dn, rfl, SqL.of hDn, hRDn, fun L1 l1 pm1 so1 hl1 => ?_⟩
  have s11 := same_new hl1 (.lst (L1.map fun q => V.ref q.1))
  have hl1' : upd H10 l1 (.lst (L1.map fun q => V.ref q.1)) l1 = some (.lst (rf L1)) := upd_same
  have hR11 : RowsIn (upd H10 l1 (.lst (L1.map fun q => V.ref q.1))) L1 := fun u hu => s11 _ _ (hRDn u (pm1.mem_iff.mp hu))
  generalize upd H10 l1 (.lst (L1.map fun q => V.ref q.1)) = H11 at s11 hl1' hR11 ⊢
  have n1 : nm L1 = S := by
    have pm : (nm L1).Perm S := by rw [← hDnn]; exact List.Perm.map (fun p : Addr × Rm => p.2) pm1
    have nd1 : (nm L1).Nodup := pm.nodup_iff.mpr (ris_nodup rm_to W.tree.ris)
    exact ris_ext rm_to (ris_of_le rm_to nd1 so1) W.tree.ris fun x => pm.mem_iff
  have hK11 := hK10.same s11
  have hS11 := hS10.same s11
  have hEv := s11 _ _ hEv
  have hREv := rows_same hREv s11
  have hDn := s11 _ _ hDn
  have hRDn := rows_same hRDn s11
  have okS : ∀ {L : Rw}, nm L = S → ∀ r ∈ nm L, RmOk r := fun e r hr => W.ok r (by rw [← e]; exact hr)
  refine ⟨_, rfl, _, _, hR11.list (SqL.of hl1'), hREv.list (SqL.of hEv), shaped_rooms (okS n1), shaped_rooms (okS hEvn), _, rfl, ?_⟩
  rw [eqv_rooms, decide_eq_true (n1.trans hEvn.symm)]
  refine iteF ⟨_, rfl, _, rfl, _, _, hRDn.list (SqL.of hDn), hREv.list (SqL.of hEv), shaped_rooms (okS hDnn), shaped_rooms (okS hEvn), _, rfl, ?_⟩
  rw [eqv_rooms, decide_eq_true (hDnn.trans hEvn.symm)]
  refine iteF ?_
  clear hK10 hS10 hl1' hR11 hDn hRDn s11 pm1 so1 n1 hl1
  -- every room is right
  have hd11 := hK11.at
  refine ⟨d, _, hd11, trivial, fun od => ?_⟩
  have hKL := hK11.lock od
  have hEvL : upd H11 d (.frz od (.dT (kvr S))) e4 = some (.lst (rf Ev)) := lock_keep hEv hd11 (fun z => nomatch z)
  have hREvL := lock_rows (od := od) hREv hd11
  refine ⟨_, rfl, e4, rfl, ⟨_, SqL.of hEvL⟩, fun D hD => ?_⟩
  refine lc_list (K := K) (a := e4) (xs := rf Ev) (fun j H' => H' D = some (.lst []) ∧ Same (upd H11 d (.frz od (.dT (kvr S)))) H') ⟨upd_same, same_new hD _⟩ (fun i H' _ h => SqL.of (h.2 _ _ hEvL)) ?_ ?_
  · rintro j y H12 hy ⟨hD12, s12⟩
    obtain ⟨c, hc, rfl⟩ := rf_get hy
    have hcS : c.2 ∈ S := by rw [← hEvn]; exact List.mem_of_getElem? (nm_at hc)
    refine ⟨rfl, _, rfl, _, rfl, x, d, c.1, S, c.2, rfl, hKL.same s12, W, W.room hcS (s12 _ _ (hREvL c (List.mem_of_getElem? hc))), hcS, fun H13 s13 => ⟨true, rfl, iteF ⟨s13 _ _ hD12, s12.trans s13⟩⟩⟩
  rintro H12 ⟨hD12, s12⟩
  refine ⟨Nat.zero_le _, fun e6 he6 => ?_⟩
  have s13 := same_new he6 (.lst [])
  refine ⟨.list (([] : List Rm).map enc), .list (([] : List Rm).map enc), .lst (xs := []) (SqL.of (s13 _ _ hD12)) .nil, .lst (xs := []) (SqL.of upd_same) .nil, shaped_rooms (fun r hr => nomatch hr), shaped_rooms (fun r hr => nomatch hr), _, rfl, ?_⟩
  rw [eqv_rooms, decide_eq_true rfl]
  refine iteF ?_
  obtain ⟨fz, s1114⟩ := unlock hd11 (s12.trans s13)
  refine ⟨fz, ?_⟩
  generalize upd (upd H12 e6 (.lst [])) d (.dT (kvr S)) = H14 at s1114 ⊢
  have hK14 := hK11.same s1114
  have hS14 := hS11.same s1114
  have hEv := s1114 _ _ hEv
  have hREv := rows_same hREv s1114
  clear hK11 hS11 hEvL hREvL hKL s12 s13 fz hD12 hD he6 s1114 hd11
  -- one
  have lEv : (rf Ev).length = S.length := by rw [rf_len, ← nm_len, hEvn]
  have lS : 0 < S.length := List.length_pos_of_mem W.tree.whole
  have lS2 := W.len
  refine ⟨_, rfl, _, rfl, st, l, e4, _, rfl, hS14, hEv, by omega, by omega, fun j y H15 hy hS15 b15 => ?_⟩
  obtain ⟨c, hc, rfl⟩ := rf_get hy
  obtain ⟨t1, r⟩ := c
  have hrS : r ∈ S := by rw [← hEvn]; exact List.mem_of_getElem? (nm_at hc)
  have hK15 := hK14.but hS14 b15
  have ht15 : RoomIn H15 t1 r := W.room hrS ((rows_but hREv hS14 b15) _ (List.mem_of_getElem? hc))
  clear hK14 hS14 hEv hREv b15 hS15 lEv lS lS2 hy hc
  -- the lesser rooms
  have hd15 := hK15.at
  refine ⟨d, _, hd15, trivial, fun od => ?_⟩
  have hKL := hK15.lock od
  obtain ⟨dxL, oL, hxL, hdL⟩ := id hKL
  have htL : RoomIn (upd H15 d (.frz od (.dT (kvr S)))) t1 r := lock_room ht15 hd15 (fun _ z => nomatch z)
  refine ⟨_, rfl, x, dxL, _, rfl, hxL, kf_no d (by decide +kernel), _, rfl, x, d, t1, S, r, rfl, hKL, W, htL, hrS, fun e7 Bn H16 he7 hBn hRBn hBnn s16 => ?_⟩
  refine ⟨e7, rfl, ⟨_, SqL.of hBn⟩, fun D hD => ?_⟩
  have lBn : (beneath S r).length ≤ 60 := beneath_len W hrS
  refine lc_list (K := K) (a := e7) (xs := rf Bn) (fun j H' => ∃ L : Rw, H' D = some (.lst (rf L)) ∧ RowsIn H' L ∧ nm L = ((beneath S r).take j).map (List.drop r.length) ∧ Same H16 H') ⟨[], upd_same, (fun p hp => nomatch hp), rfl, same_new hD _⟩ (fun i H' _ ⟨_, _, _, _, s⟩ => SqL.of (s _ _ hBn)) ?_ ?_
  · rintro j y H17 hy ⟨L2, hD2, hR2, hL2, s17⟩
    obtain ⟨u, hu, rfl⟩ := rf_get hy
    have huj : (beneath S r)[j]? = some u.2 := by rw [← hBnn]; exact nm_at hu
    have hj := (List.getElem?_eq_some_iff.mp huj).1
    have hub := s17 _ _ (hRBn u (List.mem_of_getElem? hu))
    have lenL : L2.length ≤ j := by
      rw [← nm_len, hL2, List.length_map, List.length_take]
      omega
    refine ⟨rfl, _, rfl, _, rfl, t1, _, rfl, .inr (SqT.of ((s16.trans s17) _ _ htL.1)), _, rfl, ?_⟩
    unfold tNoPart
    refine slA_drop (r.map V.str).length hub fun t' H18 s18 ht' => ?_
    refine ⟨_, s18 _ _ hD2, small1000 (by rw [rf_len]; omega), L2 ++ [(t', u.2.drop (r.map V.str).length)], by rw [upd_same, rf_snoc], rows_snoc (rows_same hR2 s18) (s18 _ _ hD2) ht', ?_, fun b o e => by rw [upd_ne (ne_of_none e hD)]; exact s18 b o (s17 b o e)⟩
    rw [nm_snoc, hL2, List.take_add_one, huj, List.map_append, List.length_map] <;> rfl
  rintro H17 ⟨L9, hD9, hR9, hL9, s17⟩
  have e9 : (rf Bn).length = (beneath S r).length := by rw [rf_len, ← nm_len, hBnn]
  rw [e9, List.take_of_length_le (Nat.le_refl _)] at hL9
  have hL9 : nm L9 = cut S r := hL9
  have G9 : Good (nm L9) := by rw [hL9]; exact good_cut slt_to W.tree
  have ok9 : ∀ u ∈ nm L9, RmOk u := fun u hu => by
    rw [hL9] at hu
    obtain ⟨o, ho, rfl⟩ := List.mem_map.mp hu
    exact drop_ok _ (W.ok o (beneath_sub ho))
  have l9 : (nm L9).length ≤ 60 := by rw [hL9]; unfold cut; rw [List.length_map]; exact lBn
  intro x2 dx2 hx2 hdx2 nex2
  have s18 : Same H17 (upd (upd H17 dx2 (.own x2)) x2 (.ins C dx2 [])) := fun b o e => by
    rw [upd_ne (ne_of_none e hx2), upd_ne (ne_of_none e hdx2)]
    exact e
  have sL17 := s16.trans s17
  refine ⟨x2, dx2, D, L9, rfl, upd_same, ⟨s18 _ _ hD9, rows_same hR9 s18, G9, by rw [← nm_len]; exact l9, ok9⟩, fun d2 S2 H19 hd2 hp2 hd2' ris2 mem2 k2 => ⟨rfl, ?_⟩⟩
  have W2 := tr_of G9 ok9 l9 ris2 mem2
  have s19 : Same H17 H19 := fun b o e => k2 b o (s18 b o e) (ne_of_none e hx2)
  have nd2 : d2 ≠ d := by
    have h1 := sL17 _ _ hdL
    have h2 := s18 _ _ h1
    exact (ne_of_none h2 hd2).symm
  obtain ⟨fz, s1520⟩ := unlock hd15 (sL17.trans s19)
  refine ⟨fz, ?_⟩
  have hK2 : KnU C (upd H19 d (.dT (kvr S))) x2 d2 S2 := ⟨dx2, un_keep fz hp2 (fun _ _ z => nomatch z), un_keep fz hd2' (fun _ _ z => nomatch z)⟩
  have hK20 := hK15.same s1520
  have ht20 := ht15.same s1520
  generalize upd H19 d (.dT (kvr S)) = H20 at hK2 hK20 ht20 ⊢
  have mem3 : ∀ q, q ∈ S2 ↔ r ++ q ∈ S := mem_lesser hrS (fun q => by rw [mem2 q, hL9])
  clear hd15 hKL hxL hdL htL hBn hRBn hBnn s16 hD hD9 hR9 hL9 s17 e9 G9 ok9 l9 hx2 hdx2 nex2 s18 sL17 hd2 hp2 hd2' ris2 mem2 k2 s19 fz s1520 hK15 ht15 he7
  -- inside, under the shorter names
  have hd20 := hK20.at
  refine ⟨d, _, hd20, trivial, fun od => ?_⟩
  have hK2a := hK2.lock1 (od := od) hd20 nd2
  have hd2a := hK2a.at
  refine ⟨d2, _, hd2a, trivial, fun od2 => ?_⟩
  have F1 := (hK20.lock od).lock2 (od2 := od2) hd2a
  have F2 := hK2a.lock od2
  have htL := lock_room (od := od2) (lock_room (od := od) ht20 hd20 (fun _ z => nomatch z)) hd2a (fun _ z => nomatch z)
  have out : ∀ H', Same (upd (upd H20 d (.frz od (.dT (kvr S)))) d2 (.frz od2 (.dT (kvr S2)))) H' → H' d2 = some (.frz od2 (.dT (kvr S2))) ∧ (upd H' d2 (.dT (kvr S2))) d = some (.frz od (.dT (kvr S))) ∧ Same H20 (upd (upd H' d2 (.dT (kvr S2))) d (.dT (kvr S))) := fun H' s => by
    obtain ⟨a1, a2⟩ := unlock hd2a s
    obtain ⟨b1, b2⟩ := unlock hd20 a2
    exact ⟨a1, b1, b2⟩
  generalize upd (upd H20 d (.frz od (.dT (kvr S)))) d2 (.frz od2 (.dT (kvr S2))) = H21 at F1 F2 htL out ⊢
  obtain ⟨dxA, oA, hxA, hdA⟩ := id F1
  obtain ⟨dxB, oB, hxB, hdB⟩ := id F2
  have r4 := ht20.2.2
  refine ⟨_, rfl, x2, dxB, _, rfl, hxB, kf_no d2 (by decide +kernel), x2, d2, S2, rfl, F2, fun e8 Rv H22 he8 hRv hRRv hRvn s22 => ?_⟩
  refine ⟨e8, rfl, ⟨_, SqL.of hRv⟩, for_list (K := K) (a := e8) (xs := rf Rv) (fun i σ H' => ∃ v : Option V, σ = [some (.ref a), some (.ref st), some (.ref b), some (.ref x), some (.ref e4), some (.ref e5), v, some (.ref t1), some (.ref x2), none] ∧ Same H22 H') ⟨none, rfl, Same.refl _⟩ (fun i σ H' _ ⟨_, _, s⟩ => s.seq (SqL.of hRv)) ?_ ?_⟩
  · rintro i y σ H23 hi ⟨v, rfl, s23⟩
    obtain ⟨c, hc, rfl⟩ := rf_get hi
    have hcS : c.2 ∈ S2 := by rw [← hRvn]; exact List.mem_of_getElem? (nm_at hc)
    have hcb := s23 _ _ (hRRv c (List.mem_of_getElem? hc))
    have c4 := W2.tree.deep _ hcS
    have s2123 := s22.trans s23
    refine ⟨_, rfl, x2, dxB, _, rfl, s2123 _ _ hxB, kf_no d2 (by decide +kernel), _, rfl, x2, d2, c.1, S2, c.2, rfl, F2.same s2123, W2, W2.room hcS hcb, hcS, fun e9 I2 H24 he9 hI2 hRI2 hIn2 s24 => ?_⟩
    refine ⟨e9, rfl, ⟨_, SqL.of hI2⟩, fun D hD => ?_⟩
    refine lc_list (K := K) (a := e9) (xs := rf I2) (fun j H' => ∃ L : Rw, H' D = some (.lst (rf L)) ∧ RowsIn H' L ∧ nm L = ((inside S2 c.2).take j).map (r ++ ·) ∧ Same H24 H') ⟨[], upd_same, (fun p hp => nomatch hp), rfl, same_new hD _⟩ (fun i H' _ ⟨_, _, _, _, s⟩ => SqL.of (s _ _ hI2)) ?_ ?_
    · rintro j y H25 hy ⟨L2, hD2, hR2, hL2, s25⟩
      obtain ⟨u, hu, rfl⟩ := rf_get hy
      have huj : (inside S2 c.2)[j]? = some u.2 := by rw [← hIn2]; exact nm_at hu
      have hj := (List.getElem?_eq_some_iff.mp huj).1
      have l61 := W2.inside_len c.2
      have hub := s25 _ _ (hRI2 u (List.mem_of_getElem? hu))
      have u4 := W2.tree.deep _ (inside_sub (List.mem_of_getElem? huj))
      have lenL : L2.length ≤ j := by
        rw [← nm_len, hL2, List.length_map, List.length_take]
        omega
      refine ⟨rfl, _, rfl, _, rfl, catA (((s2123.trans s24).trans s25) _ _ htL.1) hub (by omega) fun t' H26 s26 ht' => ?_⟩
      refine ⟨_, s26 _ _ hD2, small1000 (by rw [rf_len]; omega), L2 ++ [(t', r ++ u.2)], by rw [upd_same, rf_snoc], rows_snoc (rows_same hR2 s26) (s26 _ _ hD2) ht', ?_, fun b o e => by rw [upd_ne (ne_of_none e hD)]; exact s26 b o (s25 b o e)⟩
      rw [nm_snoc, hL2, List.take_add_one, huj, List.map_append] <;> rfl
    rintro H25 ⟨L2, hD2, hR2, hL2, s25⟩
    have e1 : (rf I2).length = (inside S2 c.2).length := by rw [rf_len, ← nm_len, hIn2]
    rw [e1, List.take_of_length_le (Nat.le_refl _), lesser_inside slt_to W.tree W2.tree mem3 c.2] at hL2
    have s2125 := (s2123.trans s24).trans s25
    have hrc : r ++ c.2 ∈ S := (mem3 _).mp hcS
    refine ⟨_, rfl, x, dxA, _, rfl, s2125 _ _ hxA, kf_no d (by decide +kernel), _, rfl, _, rfl, catA (s2125 _ _ htL.1) ((s24.trans s25) _ _ hcb) (by omega) fun t' H26 s26 ht' => ?_⟩
    refine ⟨x, d, t', S, r ++ c.2, rfl, F1.same (s2125.trans s26), W, W.room hrc ht', hrc, fun e10 I3 H27 he10 hI3 hRI3 hIn3 s27 => ?_⟩
    have s2527 := s26.trans s27
    refine ⟨_, _, (rows_same hR2 s2527).list (SqL.of (s2527 _ _ hD2)), hRI3.list (SqL.of hI3), shaped_rooms (fun u hu => ?_), shaped_rooms (fun u hu => ?_), _, rfl, ?_⟩
    · rw [hL2] at hu
      exact W.ok u (inside_sub hu)
    · rw [hIn3] at hu
      exact W.ok u (inside_sub hu)
    · rw [eqv_rooms, decide_eq_true (hL2.trans hIn3.symm)]
      exact iteF ⟨_, rfl, ((s23.trans s24).trans s25).trans s2527⟩
  rintro σ H23 ⟨v, rfl, s23⟩
  obtain ⟨fz2, fz1, s2024⟩ := out H23 (s22.trans s23)
  refine ⟨fz2, fz1, ?_⟩
  generalize upd (upd H23 d2 (.dT (kvr S2))) d (.dT (kvr S)) = H24 at s2024 ⊢
  have hK2 := hK2.same s2024
  have hK24 := hK20.same s2024
  have ht24 := ht20.same s2024
  clear hK20 ht20 hd20 hK2a hd2a F1 F2 htL out hxA hdA hxB hdB he8 hRv hRRv hRvn s22 s23 fz2 fz1 s2024
  -- ends, under the shorter names
  have hd24 := hK24.at
  refine ⟨d, _, hd24, trivial, fun od => ?_⟩
  have hK2a := hK2.lock1 (od := od) hd24 nd2
  have hd2a := hK2a.at
  refine ⟨d2, _, hd2a, trivial, fun od2 => ?_⟩
  have F1 := (hK24.lock od).lock2 (od2 := od2) hd2a
  have F2 := hK2a.lock od2
  have htL := lock_room (od := od2) (lock_room (od := od) ht24 hd24 (fun _ z => nomatch z)) hd2a (fun _ z => nomatch z)
  have out : ∀ H', Same (upd (upd H24 d (.frz od (.dT (kvr S)))) d2 (.frz od2 (.dT (kvr S2)))) H' → H' d2 = some (.frz od2 (.dT (kvr S2))) ∧ (upd H' d2 (.dT (kvr S2))) d = some (.frz od (.dT (kvr S))) ∧ Same H24 (upd (upd H' d2 (.dT (kvr S2))) d (.dT (kvr S))) := fun H' s => by
    obtain ⟨a1, a2⟩ := unlock hd2a s
    obtain ⟨b1, b2⟩ := unlock hd24 a2
    exact ⟨a1, b1, b2⟩
  generalize upd (upd H24 d (.frz od (.dT (kvr S)))) d2 (.frz od2 (.dT (kvr S2))) = H21 at F1 F2 htL out ⊢
  obtain ⟨dxA, oA, hxA, hdA⟩ := id F1
  obtain ⟨dxB, oB, hxB, hdB⟩ := id F2
  refine ⟨_, rfl, x2, dxB, _, rfl, hxB, kf_no d2 (by decide +kernel), x2, d2, S2, rfl, F2, W2, fun e9 E2 H25 he9 hE2 hRE2 hEn2 s25 => ?_⟩
  refine ⟨e9, rfl, ⟨_, SqL.of hE2⟩, fun D hD => ?_⟩
  have lE2 : (ends S2).length ≤ 61 := W2.sub_len _ rfl
  have lE : (ends S).length ≤ 61 := W.sub_len _ rfl
  refine lc_list (K := K) (a := e9) (xs := rf E2) (fun j H' => ∃ L : Rw, H' D = some (.lst (rf L)) ∧ RowsIn H' L ∧ nm L = ((ends S2).take j).map (r ++ ·) ∧ Same H25 H') ⟨[], upd_same, (fun p hp => nomatch hp), rfl, same_new hD _⟩ (fun i H' _ ⟨_, _, _, _, s⟩ => SqL.of (s _ _ hE2)) ?_ ?_
  · rintro j y H26 hy ⟨L2, hD2, hR2, hL2, s26⟩
    obtain ⟨u, hu, rfl⟩ := rf_get hy
    have huj : (ends S2)[j]? = some u.2 := by rw [← hEn2]; exact nm_at hu
    have hj := (List.getElem?_eq_some_iff.mp huj).1
    have hub := s26 _ _ (hRE2 u (List.mem_of_getElem? hu))
    have u4 := W2.tree.deep _ (ends_sub (List.mem_of_getElem? huj))
    have lenL : L2.length ≤ j := by
      rw [← nm_len, hL2, List.length_map, List.length_take]
      omega
    refine ⟨rfl, _, rfl, _, rfl, catA ((s25.trans s26) _ _ htL.1) hub (by omega) fun t' H27 s27 ht' => ?_⟩
    refine ⟨_, s27 _ _ hD2, small1000 (by rw [rf_len]; omega), L2 ++ [(t', r ++ u.2)], by rw [upd_same, rf_snoc], rows_snoc (rows_same hR2 s27) (s27 _ _ hD2) ht', ?_, fun b o e => by rw [upd_ne (ne_of_none e hD)]; exact s27 b o (s26 b o e)⟩
    rw [nm_snoc, hL2, List.take_add_one, huj, List.map_append] <;> rfl
  rintro H26 ⟨LA, hDA, hRA, hLA, s26⟩
  have e1 : (rf E2).length = (ends S2).length := by rw [rf_len, ← nm_len, hEn2]
  rw [e1, List.take_of_length_le (Nat.le_refl _), lesser_ends slt_to W.tree W2.tree mem3] at hLA
  have s2126 := s25.trans s26
  refine ⟨_, rfl, x, dxA, _, rfl, s2126 _ _ hxA, kf_no d (by decide +kernel), x, d, S, rfl, F1.same s2126, W, fun e10 E3 H27 he10 hE3 hRE3 hEn3 s27 => ?_⟩
  refine ⟨e10, rfl, ⟨_, SqL.of hE3⟩, fun DB hDB => ?_⟩
  have s2127 := s2126.trans s27
  refine lc_list (K := K) (a := e10) (xs := rf E3) (fun j H' => ∃ L : Rw, H' DB = some (.lst (rf L)) ∧ RowsIn H' L ∧ nm L = ((ends S).take j).filter (fun o => decide (o.take r.length = r)) ∧ Same H27 H') ⟨[], upd_same, (fun p hp => nomatch hp), by simp <;> rfl, same_new hDB _⟩ (fun i H' _ ⟨_, _, _, _, s⟩ => SqL.of (s _ _ hE3)) ?_ ?_
  · rintro j y H28 hy ⟨L2, hD2, hR2, hL2, s28⟩
    obtain ⟨u, hu, rfl⟩ := rf_get hy
    have huj : (ends S)[j]? = some u.2 := by rw [← hEn3]; exact nm_at hu
    have hj := (List.getElem?_eq_some_iff.mp huj).1
    have hub := s28 _ _ (hRE3 u (List.mem_of_getElem? hu))
    have oku := W.ok u.2 (ends_sub (List.mem_of_getElem? huj))
    have okd : RmOk (u.2.take (r.map V.str).length) := fun z hz => oku z (List.mem_of_mem_take hz)
    have lenL : L2.length ≤ 61 := by
      rw [← nm_len, hL2]
      refine Nat.le_trans (List.length_filter_le _ _) ?_
      rw [List.length_take]
      omega
    have ht28 := (s2127.trans s28) _ _ htL.1
    refine ⟨rfl, _, rfl, _, rfl, t1, _, rfl, .inr (SqT.of ht28), _, rfl, slA_take (r.map V.str).length hub fun b2 H29 s29 hb2 => ⟨_, rfl, _, _, room_dp hb2, room_dp (s29 _ _ ht28), shaped_room okd, shaped_room htL.2.1, _, rfl, ?_⟩⟩
    rw [eqv_room, List.length_map]
    have step := filter_take (f := fun o : Rm => decide (o.take r.length = r)) huj
    have hD3 := s29 _ _ hD2
    have hR3 := rows_same hR2 s29
    have s13 := s28.trans s29
    refine ite2 (fun c1 => ?_) (fun c1 => ?_)
    · refine ⟨_, rfl, _, hD3, small1000 (by rw [rf_len]; omega), L2 ++ [(u.1, u.2)], by rw [upd_same, rf_snoc], rows_snoc hR3 hD3 (s29 _ _ hub), ?_, fun b o e => by rw [upd_ne (ne_of_none e hDB)]; exact s13 b o e⟩
      rw [nm_snoc, hL2, step, if_pos c1]
    · refine ⟨L2, hD3, hR3, ?_, s13⟩
      rw [hL2, step, if_neg c1, List.append_nil]
  rintro H28 ⟨LB, hDB2, hRB, hLB, s28⟩
  have e2 : (rf E3).length = (ends S).length := by rw [rf_len, ← nm_len, hEn3]
  rw [e2, List.take_of_length_le (Nat.le_refl _)] at hLB
  have s2628 := s27.trans s28
  have okf : ∀ u ∈ nm LB, RmOk u := fun u hu => by
    rw [hLB] at hu
    exact W.ok u (ends_sub (List.mem_filter.mp hu).1)
  have eAB : nm LA = nm LB := hLA.trans hLB.symm
  refine ⟨_, _, (rows_same hRA s2628).list (SqL.of (s2628 _ _ hDA)), hRB.list (SqL.of hDB2), shaped_rooms (by rw [eAB]; exact okf), shaped_rooms okf, ?_⟩
  rw [eqv_rooms, decide_eq_true eAB]
  obtain ⟨fz2, fz1, _⟩ := out H28 (s2127.trans s28)
  exact ⟨fz2, fz1, q _⟩
end
end Ho
end

section
set_option Elab.async false
set_option linter.all false
set_option maxRecDepth 100000
set_option maxHeartbeats 2000000
/-! K8a: all promises joined over the top's facts. -/
namespace Ho
open PySem PySem.Spec PyProof.Rows L2
theorem all_mk {l : PySem.W.OpenLaw} {w : World} {K : PySem.W.Frag} {h : Heap} {mg : Str → Option Value} {fa C TT tt : Addr} (X : K.In h) (G : h.Ns mainGlobals mg) (hfa : mg "law" = some (.ref fa))
    {oc_begin kV_begin dc_begin pm_begin cd_begin ct_begin : Value} {od_begin an_begin : Option Addr} {sl_begin : Array (Option Value)} {f_begin : Addr}
    {oc_more kV_more dc_more pm_more cd_more ct_more : Value} {od_more an_more : Option Addr} {sl_more : Array (Option Value)} {f_more : Addr}
    {oc_next kV_next dc_next pm_next cd_next ct_next : Value} {od_next an_next : Option Addr} {sl_next : Array (Option Value)} {f_next : Addr}
    {oc_pick kV_pick dc_pick pm_pick cd_pick ct_pick : Value} {od_pick an_pick : Option Addr} {sl_pick : Array (Option Value)} {f_pick : Addr}
    {oc_word kV_word dc_word pm_word cd_word ct_word : Value} {od_word an_word : Option Addr} {sl_word : Array (Option Value)} {f_word : Addr}
    {oc_names kV_names dc_names pm_names cd_names ct_names : Value} {od_names an_names : Option Addr} {sl_names : Array (Option Value)} {f_names : Addr}
    {oc_tree kV_tree dc_tree pm_tree cd_tree ct_tree : Value} {od_tree an_tree : Option Addr} {sl_tree : Array (Option Value)} {f_tree : Addr}
    {oc_turned kV_turned dc_turned pm_turned cd_turned ct_turned : Value} {od_turned an_turned : Option Addr} {sl_turned : Array (Option Value)} {f_turned : Addr}
    {oc_down kV_down dc_down pm_down cd_down ct_down : Value} {od_down an_down : Option Addr} {sl_down : Array (Option Value)} {f_down : Addr}
    {oc_right kV_right dc_right pm_right cd_right ct_right : Value} {od_right an_right : Option Addr} {sl_right : Array (Option Value)} {f_right : Addr}
    {oc_law kV_law dc_law pm_law cd_law ct_law : Value} {od_law an_law : Option Addr} {sl_law : Array (Option Value)} {f_law : Addr}
    {oc_isName kV_isName dc_isName pm_isName cd_isName ct_isName : Value} {od_isName an_isName : Option Addr} {sl_isName : Array (Option Value)} {f_isName : Addr}
    {oc_isRow kV_isRow dc_isRow pm_isRow cd_isRow ct_isRow : Value} {od_isRow an_isRow : Option Addr} {sl_isRow : Array (Option Value)} {f_isRow : Addr}
    {oc_isRoom kV_isRoom dc_isRoom pm_isRoom cd_isRoom ct_isRoom : Value} {od_isRoom an_isRoom : Option Addr} {sl_isRoom : Array (Option Value)} {f_isRoom : Addr}
    {oc_areRooms kV_areRooms dc_areRooms pm_areRooms cd_areRooms ct_areRooms : Value} {od_areRooms an_areRooms : Option Addr} {sl_areRooms : Array (Option Value)} {f_areRooms : Addr}
    {oc_need kV_need dc_need pm_need cd_need ct_need : Value} {od_need an_need : Option Addr} {sl_need : Array (Option Value)} {f_need : Addr}
    {oc_rooms kV_rooms dc_rooms pm_rooms cd_rooms ct_rooms : Value} {od_rooms an_rooms : Option Addr} {sl_rooms : Array (Option Value)} {f_rooms : Addr}
    {oc_inside kV_inside dc_inside pm_inside cd_inside ct_inside : Value} {od_inside an_inside : Option Addr} {sl_inside : Array (Option Value)} {f_inside : Addr}
    {oc_beneath kV_beneath dc_beneath pm_beneath cd_beneath ct_beneath : Value} {od_beneath an_beneath : Option Addr} {sl_beneath : Array (Option Value)} {f_beneath : Addr}
    {oc_over kV_over dc_over pm_over cd_over ct_over : Value} {od_over an_over : Option Addr} {sl_over : Array (Option Value)} {f_over : Addr}
    {oc_ends kV_ends dc_ends pm_ends cd_ends ct_ends : Value} {od_ends an_ends : Option Addr} {sl_ends : Array (Option Value)} {f_ends : Addr}
    {oc_init kV_init dc_init pm_init cd_init ct_init : Value} {od_init an_init : Option Addr} {sl_init : Array (Option Value)} {f_init : Addr}
    {oc_T : Value} {od_T : Option Addr} {n_T : Nat} {sl_T : Array (Option Value)} {t_1 t_2 t_3 t_4 : Tok}
    (a_begin : PySem.W.nsIn K mainGlobals "_law_begin" = some (some (.ref f_begin)))
    (l_begin : K.lookup f_begin = some ⟨oc_begin, od_begin, .func (PySem.W.fnOf "_law_begin" "_law_begin" (defArgs sBegin) (defBody sBegin) (defScope sBegin) .none kV_begin dc_begin pm_begin an_begin cd_begin ct_begin), sl_begin⟩)
    (c_begin : PySem.W.codeIn K cd_begin "_law_begin" = true)
    (k_begin : PySem.W.keepIn K (.ref f_begin) = true)
    (a_more : PySem.W.nsIn K mainGlobals "_law_more" = some (some (.ref f_more)))
    (l_more : K.lookup f_more = some ⟨oc_more, od_more, .func (PySem.W.fnOf "_law_more" "_law_more" (defArgs sMore) (defBody sMore) (defScope sMore) .none kV_more dc_more pm_more an_more cd_more ct_more), sl_more⟩)
    (c_more : PySem.W.codeIn K cd_more "_law_more" = true)
    (k_more : PySem.W.keepIn K (.ref f_more) = true)
    (a_next : PySem.W.nsIn K mainGlobals "_law_next" = some (some (.ref f_next)))
    (l_next : K.lookup f_next = some ⟨oc_next, od_next, .func (PySem.W.fnOf "_law_next" "_law_next" (defArgs sNext) (defBody sNext) (defScope sNext) .none kV_next dc_next pm_next an_next cd_next ct_next), sl_next⟩)
    (c_next : PySem.W.codeIn K cd_next "_law_next" = true)
    (k_next : PySem.W.keepIn K (.ref f_next) = true)
    (a_pick : PySem.W.nsIn K mainGlobals "_law_pick" = some (some (.ref f_pick)))
    (l_pick : K.lookup f_pick = some ⟨oc_pick, od_pick, .func (PySem.W.fnOf "_law_pick" "_law_pick" (defArgs sPick) (defBody sPick) (defScope sPick) .none kV_pick dc_pick pm_pick an_pick cd_pick ct_pick), sl_pick⟩)
    (c_pick : PySem.W.codeIn K cd_pick "_law_pick" = true)
    (k_pick : PySem.W.keepIn K (.ref f_pick) = true)
    (a_word : PySem.W.nsIn K mainGlobals "_law_word" = some (some (.ref f_word)))
    (l_word : K.lookup f_word = some ⟨oc_word, od_word, .func (PySem.W.fnOf "_law_word" "_law_word" (defArgs sWord) (defBody sWord) (defScope sWord) .none kV_word dc_word pm_word an_word cd_word ct_word), sl_word⟩)
    (c_word : PySem.W.codeIn K cd_word "_law_word" = true)
    (k_word : PySem.W.keepIn K (.ref f_word) = true)
    (a_names : PySem.W.nsIn K mainGlobals "_law_names" = some (some (.ref f_names)))
    (l_names : K.lookup f_names = some ⟨oc_names, od_names, .func (PySem.W.fnOf "_law_names" "_law_names" (defArgs sNames) (defBody sNames) (defScope sNames) .none kV_names dc_names pm_names an_names cd_names ct_names), sl_names⟩)
    (c_names : PySem.W.codeIn K cd_names "_law_names" = true)
    (k_names : PySem.W.keepIn K (.ref f_names) = true)
    (a_tree : PySem.W.nsIn K mainGlobals "_law_tree" = some (some (.ref f_tree)))
    (l_tree : K.lookup f_tree = some ⟨oc_tree, od_tree, .func (PySem.W.fnOf "_law_tree" "_law_tree" (defArgs sTree) (defBody sTree) (defScope sTree) .none kV_tree dc_tree pm_tree an_tree cd_tree ct_tree), sl_tree⟩)
    (c_tree : PySem.W.codeIn K cd_tree "_law_tree" = true)
    (k_tree : PySem.W.keepIn K (.ref f_tree) = true)
    (a_turned : PySem.W.nsIn K mainGlobals "_law_turned" = some (some (.ref f_turned)))
    (l_turned : K.lookup f_turned = some ⟨oc_turned, od_turned, .func (PySem.W.fnOf "_law_turned" "_law_turned" (defArgs sTurned) (defBody sTurned) (defScope sTurned) .none kV_turned dc_turned pm_turned an_turned cd_turned ct_turned), sl_turned⟩)
    (c_turned : PySem.W.codeIn K cd_turned "_law_turned" = true)
    (k_turned : PySem.W.keepIn K (.ref f_turned) = true)
    (a_down : PySem.W.nsIn K mainGlobals "_law_down" = some (some (.ref f_down)))
    (l_down : K.lookup f_down = some ⟨oc_down, od_down, .func (PySem.W.fnOf "_law_down" "_law_down" (defArgs sDown) (defBody sDown) (defScope sDown) .none kV_down dc_down pm_down an_down cd_down ct_down), sl_down⟩)
    (c_down : PySem.W.codeIn K cd_down "_law_down" = true)
    (k_down : PySem.W.keepIn K (.ref f_down) = true)
    (a_right : PySem.W.nsIn K mainGlobals "_law_one_right" = some (some (.ref f_right)))
    (l_right : K.lookup f_right = some ⟨oc_right, od_right, .func (PySem.W.fnOf "_law_one_right" "_law_one_right" (defArgs sOneRight) (defBody sOneRight) (defScope sOneRight) .none kV_right dc_right pm_right an_right cd_right ct_right), sl_right⟩)
    (c_right : PySem.W.codeIn K cd_right "_law_one_right" = true)
    (k_right : PySem.W.keepIn K (.ref f_right) = true)
    (a_law : PySem.W.nsIn K mainGlobals "law" = some (some (.ref f_law)))
    (l_law : K.lookup f_law = some ⟨oc_law, od_law, .func (PySem.W.fnOf "law" "law" (defArgs sLaw) (defBody sLaw) (defScope sLaw) .none kV_law dc_law pm_law an_law cd_law ct_law), sl_law⟩)
    (c_law : PySem.W.codeIn K cd_law "law" = true)
    (k_law : PySem.W.keepIn K (.ref f_law) = true)
    (a_isName : PySem.W.nsIn K mainGlobals "is_name" = some (some (.ref f_isName)))
    (l_isName : K.lookup f_isName = some ⟨oc_isName, od_isName, .func (PySem.W.fnOf "is_name" "is_name" (defArgs sIsName) (defBody sIsName) (defScope sIsName) .none kV_isName dc_isName pm_isName an_isName cd_isName ct_isName), sl_isName⟩)
    (c_isName : PySem.W.codeIn K cd_isName "is_name" = true)
    (k_isName : PySem.W.keepIn K (.ref f_isName) = true)
    (a_isRow : PySem.W.nsIn K mainGlobals "is_row" = some (some (.ref f_isRow)))
    (l_isRow : K.lookup f_isRow = some ⟨oc_isRow, od_isRow, .func (PySem.W.fnOf "is_row" "is_row" (defArgs sIsRow) (defBody sIsRow) (defScope sIsRow) .none kV_isRow dc_isRow pm_isRow an_isRow cd_isRow ct_isRow), sl_isRow⟩)
    (c_isRow : PySem.W.codeIn K cd_isRow "is_row" = true)
    (k_isRow : PySem.W.keepIn K (.ref f_isRow) = true)
    (a_isRoom : PySem.W.nsIn K mainGlobals "is_room" = some (some (.ref f_isRoom)))
    (l_isRoom : K.lookup f_isRoom = some ⟨oc_isRoom, od_isRoom, .func (PySem.W.fnOf "is_room" "is_room" (defArgs sIsRoom) (defBody sIsRoom) (defScope sIsRoom) .none kV_isRoom dc_isRoom pm_isRoom an_isRoom cd_isRoom ct_isRoom), sl_isRoom⟩)
    (c_isRoom : PySem.W.codeIn K cd_isRoom "is_room" = true)
    (k_isRoom : PySem.W.keepIn K (.ref f_isRoom) = true)
    (a_areRooms : PySem.W.nsIn K mainGlobals "are_rooms" = some (some (.ref f_areRooms)))
    (l_areRooms : K.lookup f_areRooms = some ⟨oc_areRooms, od_areRooms, .func (PySem.W.fnOf "are_rooms" "are_rooms" (defArgs sAreRooms) (defBody sAreRooms) (defScope sAreRooms) .none kV_areRooms dc_areRooms pm_areRooms an_areRooms cd_areRooms ct_areRooms), sl_areRooms⟩)
    (c_areRooms : PySem.W.codeIn K cd_areRooms "are_rooms" = true)
    (k_areRooms : PySem.W.keepIn K (.ref f_areRooms) = true)
    (a_C : PySem.W.nsIn K mainGlobals "Rooms" = some (some (.ref C)))
    (a_need : PySem.W.findIn K (.ref C) "need" = some (some (.ref f_need)))
    (i_need : PySem.W.isFn K (.ref f_need) = true)
    (l_need : K.lookup f_need = some ⟨oc_need, od_need, .func (PySem.W.fnOf "need" "Rooms.need" (defArgs sNeed) (defBody sNeed) (defScope sNeed) .none kV_need dc_need pm_need an_need cd_need ct_need), sl_need⟩)
    (c_need : PySem.W.codeIn K cd_need "Rooms.need" = true)
    (k_need : PySem.W.keepIn K (.ref f_need) = true)
    (a_rooms : PySem.W.findIn K (.ref C) "rooms" = some (some (.ref f_rooms)))
    (i_rooms : PySem.W.isFn K (.ref f_rooms) = true)
    (l_rooms : K.lookup f_rooms = some ⟨oc_rooms, od_rooms, .func (PySem.W.fnOf "rooms" "Rooms.rooms" (defArgs sRooms) (defBody sRooms) (defScope sRooms) .none kV_rooms dc_rooms pm_rooms an_rooms cd_rooms ct_rooms), sl_rooms⟩)
    (c_rooms : PySem.W.codeIn K cd_rooms "Rooms.rooms" = true)
    (k_rooms : PySem.W.keepIn K (.ref f_rooms) = true)
    (a_inside : PySem.W.findIn K (.ref C) "inside" = some (some (.ref f_inside)))
    (i_inside : PySem.W.isFn K (.ref f_inside) = true)
    (l_inside : K.lookup f_inside = some ⟨oc_inside, od_inside, .func (PySem.W.fnOf "inside" "Rooms.inside" (defArgs sInside) (defBody sInside) (defScope sInside) .none kV_inside dc_inside pm_inside an_inside cd_inside ct_inside), sl_inside⟩)
    (c_inside : PySem.W.codeIn K cd_inside "Rooms.inside" = true)
    (k_inside : PySem.W.keepIn K (.ref f_inside) = true)
    (a_beneath : PySem.W.findIn K (.ref C) "beneath" = some (some (.ref f_beneath)))
    (i_beneath : PySem.W.isFn K (.ref f_beneath) = true)
    (l_beneath : K.lookup f_beneath = some ⟨oc_beneath, od_beneath, .func (PySem.W.fnOf "beneath" "Rooms.beneath" (defArgs sBeneath) (defBody sBeneath) (defScope sBeneath) .none kV_beneath dc_beneath pm_beneath an_beneath cd_beneath ct_beneath), sl_beneath⟩)
    (c_beneath : PySem.W.codeIn K cd_beneath "Rooms.beneath" = true)
    (k_beneath : PySem.W.keepIn K (.ref f_beneath) = true)
    (a_over : PySem.W.findIn K (.ref C) "over" = some (some (.ref f_over)))
    (i_over : PySem.W.isFn K (.ref f_over) = true)
    (l_over : K.lookup f_over = some ⟨oc_over, od_over, .func (PySem.W.fnOf "over" "Rooms.over" (defArgs sOver) (defBody sOver) (defScope sOver) .none kV_over dc_over pm_over an_over cd_over ct_over), sl_over⟩)
    (c_over : PySem.W.codeIn K cd_over "Rooms.over" = true)
    (k_over : PySem.W.keepIn K (.ref f_over) = true)
    (a_ends : PySem.W.findIn K (.ref C) "ends" = some (some (.ref f_ends)))
    (i_ends : PySem.W.isFn K (.ref f_ends) = true)
    (l_ends : K.lookup f_ends = some ⟨oc_ends, od_ends, .func (PySem.W.fnOf "ends" "Rooms.ends" (defArgs sEnds) (defBody sEnds) (defScope sEnds) .none kV_ends dc_ends pm_ends an_ends cd_ends ct_ends), sl_ends⟩)
    (c_ends : PySem.W.codeIn K cd_ends "Rooms.ends" = true)
    (k_ends : PySem.W.keepIn K (.ref f_ends) = true)
    (a_init : PySem.W.findIn K (.ref C) "__init__" = some (some (.ref f_init)))
    (i_init : PySem.W.isFn K (.ref f_init) = true)
    (l_init : K.lookup f_init = some ⟨oc_init, od_init, .func (PySem.W.fnOf "__init__" "Rooms.__init__" (defArgs sInit) (defBody sInit) (defScope sInit) (.ref TT) kV_init dc_init pm_init an_init cd_init ct_init), sl_init⟩)
    (c_init : PySem.W.codeIn K cd_init "Rooms.__init__" = true)
    (k_init : PySem.W.keepIn K (.ref f_init) = true)
    (l_T : K.lookup TT = some ⟨oc_T, od_T, .seq #[.ref tt] n_T, sl_T⟩)
    (pgC : PySem.W.plainGet K C Str.empty = true)
    (hdC : PySem.W.hasDictIn K C = true)
    (poC : PySem.W.plainOver K C = true)
    (saC : PySem.W.findIn K (.ref C) "__setattr__" = some (some (.builtin "object.__setattr__")))
    (mkC : PySem.W.makesIn K C = true)
    (kcC : PySem.W.keepIn K (.ref C) = true)
    (nkC : PySem.W.findIn K (.ref C) "known" = some none)
    (a_letters : PySem.W.nsIn K mainGlobals "LETTERS" = some (some (.str abc t_1)))
    (a_longest : PySem.W.nsIn K mainGlobals "LONGEST" = some (some (.int 8 t_2)))
    (a_most : PySem.W.nsIn K mainGlobals "MOST_ROOMS" = some (some (.int 60 t_3)))
    (a_deepest : PySem.W.nsIn K mainGlobals "DEEPEST" = some (some (.int 4 t_4)))
    (z_len : PySem.W.nsIn K mainGlobals "len" = some none)
    (z_range : PySem.W.nsIn K mainGlobals "range" = some none)
    (z_list : PySem.W.nsIn K mainGlobals "list" = some none)
    (z_tuple : PySem.W.nsIn K mainGlobals "tuple" = some none)
    (z_set : PySem.W.nsIn K mainGlobals "set" = some none)
    (z_str : PySem.W.nsIn K mainGlobals "str" = some none)
    (z_all : PySem.W.nsIn K mainGlobals "all" = some none)
    (z_sorted : PySem.W.nsIn K mainGlobals "sorted" = some none)
    (z_isinstance : PySem.W.nsIn K mainGlobals "isinstance" = some none)
    : ∃ fd : FuncData, (∀ (s : Shared) (v : Value), BindsTo s fd ⟨[v], []⟩ [("_law_script", v)]) ∧ ∀ base : Heap, K.In base → base.Ns mainGlobals mg → FnOk l.prog w K mg base CX0 10 fa fd ["_law_script"] (spLaw K) := by
  have e := hfa.symm.trans (PySem.W.mg_of X G a_law)
  cases e
  have F_begin := fun_mk (st := sBegin) l_begin c_begin k_begin
  have D_begin : Df K mg "_law_begin" sBegin ["_law_script"] f_begin _ := ⟨F_begin, F_begin.binds (ps := ["_law_script"]) fun _ _ _ _ _ _ us hl => (match us, hl with | [_], _ => rfl), PySem.W.mg_of X G a_begin⟩
  have F_more := fun_mk (st := sMore) l_more c_more k_more
  have D_more : Df K mg "_law_more" sMore ["_law_state"] f_more _ := ⟨F_more, F_more.binds (ps := ["_law_state"]) fun _ _ _ _ _ _ us hl => (match us, hl with | [_], _ => rfl), PySem.W.mg_of X G a_more⟩
  have F_next := fun_mk (st := sNext) l_next c_next k_next
  have D_next : Df K mg "_law_next" sNext ["_law_state", "_law_many"] f_next _ := ⟨F_next, F_next.binds (ps := ["_law_state", "_law_many"]) fun _ _ _ _ _ _ us hl => (match us, hl with | [_, _], _ => rfl), PySem.W.mg_of X G a_next⟩
  have F_pick := fun_mk (st := sPick) l_pick c_pick k_pick
  have D_pick : Df K mg "_law_pick" sPick ["_law_state", "_law_some"] f_pick _ := ⟨F_pick, F_pick.binds (ps := ["_law_state", "_law_some"]) fun _ _ _ _ _ _ us hl => (match us, hl with | [_, _], _ => rfl), PySem.W.mg_of X G a_pick⟩
  have F_word := fun_mk (st := sWord) l_word c_word k_word
  have D_word : Df K mg "_law_word" sWord ["_law_state"] f_word _ := ⟨F_word, F_word.binds (ps := ["_law_state"]) fun _ _ _ _ _ _ us hl => (match us, hl with | [_], _ => rfl), PySem.W.mg_of X G a_word⟩
  have F_names := fun_mk (st := sNames) l_names c_names k_names
  have D_names : Df K mg "_law_names" sNames ["_law_state", "_law_many"] f_names _ := ⟨F_names, F_names.binds (ps := ["_law_state", "_law_many"]) fun _ _ _ _ _ _ us hl => (match us, hl with | [_, _], _ => rfl), PySem.W.mg_of X G a_names⟩
  have F_tree := fun_mk (st := sTree) l_tree c_tree k_tree
  have D_tree : Df K mg "_law_tree" sTree ["_law_state"] f_tree _ := ⟨F_tree, F_tree.binds (ps := ["_law_state"]) fun _ _ _ _ _ _ us hl => (match us, hl with | [_], _ => rfl), PySem.W.mg_of X G a_tree⟩
  have F_turned := fun_mk (st := sTurned) l_turned c_turned k_turned
  have D_turned : Df K mg "_law_turned" sTurned ["_law_state", "_law_some"] f_turned _ := ⟨F_turned, F_turned.binds (ps := ["_law_state", "_law_some"]) fun _ _ _ _ _ _ us hl => (match us, hl with | [_, _], _ => rfl), PySem.W.mg_of X G a_turned⟩
  have F_down := fun_mk (st := sDown) l_down c_down k_down
  have D_down : Df K mg "_law_down" sDown ["_law_rooms", "_law_one"] f_down _ := ⟨F_down, F_down.binds (ps := ["_law_rooms", "_law_one"]) fun _ _ _ _ _ _ us hl => (match us, hl with | [_, _], _ => rfl), PySem.W.mg_of X G a_down⟩
  have F_right := fun_mk (st := sOneRight) l_right c_right k_right
  have D_right : Df K mg "_law_one_right" sOneRight ["_law_rooms", "_law_one"] f_right _ := ⟨F_right, F_right.binds (ps := ["_law_rooms", "_law_one"]) fun _ _ _ _ _ _ us hl => (match us, hl with | [_, _], _ => rfl), PySem.W.mg_of X G a_right⟩
  have F_law := fun_mk (st := sLaw) l_law c_law k_law
  have D_law : Df K mg "law" sLaw ["_law_script"] fa _ := ⟨F_law, F_law.binds (ps := ["_law_script"]) fun _ _ _ _ _ _ us hl => (match us, hl with | [_], _ => rfl), PySem.W.mg_of X G a_law⟩
  have F_isName := fun_mk (st := sIsName) l_isName c_isName k_isName
  have D_isName : Df K mg "is_name" sIsName ["thing"] f_isName _ := ⟨F_isName, F_isName.binds (ps := ["thing"]) fun _ _ _ _ _ _ us hl => (match us, hl with | [_], _ => rfl), PySem.W.mg_of X G a_isName⟩
  have F_isRow := fun_mk (st := sIsRow) l_isRow c_isRow k_isRow
  have D_isRow : Df K mg "is_row" sIsRow ["thing"] f_isRow _ := ⟨F_isRow, F_isRow.binds (ps := ["thing"]) fun _ _ _ _ _ _ us hl => (match us, hl with | [_], _ => rfl), PySem.W.mg_of X G a_isRow⟩
  have F_isRoom := fun_mk (st := sIsRoom) l_isRoom c_isRoom k_isRoom
  have D_isRoom : Df K mg "is_room" sIsRoom ["thing"] f_isRoom _ := ⟨F_isRoom, F_isRoom.binds (ps := ["thing"]) fun _ _ _ _ _ _ us hl => (match us, hl with | [_], _ => rfl), PySem.W.mg_of X G a_isRoom⟩
  have F_areRooms := fun_mk (st := sAreRooms) l_areRooms c_areRooms k_areRooms
  have D_areRooms : Df K mg "are_rooms" sAreRooms ["thing"] f_areRooms _ := ⟨F_areRooms, F_areRooms.binds (ps := ["thing"]) fun _ _ _ _ _ _ us hl => (match us, hl with | [_], _ => rfl), PySem.W.mg_of X G a_areRooms⟩
  have F_need := fun_mk (st := sNeed) l_need c_need k_need
  have M_need : Mt K C "need" "Rooms.need" sNeed ["self", "room"] f_need _ := ⟨F_need, F_need.binds (ps := ["self", "room"]) fun _ _ _ _ _ _ us hl => (match us, hl with | [_, _], _ => rfl), ⟨a_need, i_need, k_need⟩⟩
  have F_rooms := fun_mk (st := sRooms) l_rooms c_rooms k_rooms
  have M_rooms : Mt K C "rooms" "Rooms.rooms" sRooms ["self"] f_rooms _ := ⟨F_rooms, F_rooms.binds (ps := ["self"]) fun _ _ _ _ _ _ us hl => (match us, hl with | [_], _ => rfl), ⟨a_rooms, i_rooms, k_rooms⟩⟩
  have F_inside := fun_mk (st := sInside) l_inside c_inside k_inside
  have M_inside : Mt K C "inside" "Rooms.inside" sInside ["self", "room"] f_inside _ := ⟨F_inside, F_inside.binds (ps := ["self", "room"]) fun _ _ _ _ _ _ us hl => (match us, hl with | [_, _], _ => rfl), ⟨a_inside, i_inside, k_inside⟩⟩
  have F_beneath := fun_mk (st := sBeneath) l_beneath c_beneath k_beneath
  have M_beneath : Mt K C "beneath" "Rooms.beneath" sBeneath ["self", "room"] f_beneath _ := ⟨F_beneath, F_beneath.binds (ps := ["self", "room"]) fun _ _ _ _ _ _ us hl => (match us, hl with | [_, _], _ => rfl), ⟨a_beneath, i_beneath, k_beneath⟩⟩
  have F_over := fun_mk (st := sOver) l_over c_over k_over
  have M_over : Mt K C "over" "Rooms.over" sOver ["self", "room"] f_over _ := ⟨F_over, F_over.binds (ps := ["self", "room"]) fun _ _ _ _ _ _ us hl => (match us, hl with | [_, _], _ => rfl), ⟨a_over, i_over, k_over⟩⟩
  have F_ends := fun_mk (st := sEnds) l_ends c_ends k_ends
  have M_ends : Mt K C "ends" "Rooms.ends" sEnds ["self"] f_ends _ := ⟨F_ends, F_ends.binds (ps := ["self"]) fun _ _ _ _ _ _ us hl => (match us, hl with | [_], _ => rfl), ⟨a_ends, i_ends, k_ends⟩⟩
  have F_init : FunD K "__init__" "Rooms.__init__" (defArgs sInit) (defBody sInit) (defScope sInit) [V.ref tt] [] f_init _ := ⟨⟨oc_init, od_init, .ref TT, kV_init, dc_init, pm_init, an_init, cd_init, ct_init, sl_init, rfl, l_init, c_init, .inr ⟨(fun z => nomatch z), TT, _, [.ref tt], n_T, rfl, l_T, rfl, .cons rfl .nil⟩, .inl rfl⟩, k_init⟩
  have b_init := F_init.binds1 (ps := ["self", "rooms"]) 2 1 (by simp) rfl fun T kV doc pm an cdv ct us its hl hi => (match us, hl, its, hi with | [_, _], _, [_], _ => ⟨_, rfl, rfl⟩)
  obtain ⟨ds, vds, b_init⟩ := b_init
  cases vds
  have B : Bu mg := ⟨PySem.W.mg_none_of X G z_len, PySem.W.mg_none_of X G z_range, PySem.W.mg_none_of X G z_list, PySem.W.mg_none_of X G z_tuple, PySem.W.mg_none_of X G z_set, PySem.W.mg_none_of X G z_str, PySem.W.mg_none_of X G z_all, PySem.W.mg_none_of X G z_sorted, PySem.W.mg_none_of X G z_isinstance⟩
  have Cc : Co mg := ⟨⟨_, PySem.W.mg_of X G a_letters, _, rfl⟩, ⟨_, PySem.W.mg_of X G a_longest, _, rfl⟩, ⟨_, PySem.W.mg_of X G a_most, _, rfl⟩, ⟨_, PySem.W.mg_of X G a_deepest, _, rfl⟩⟩
  have T : Kl K mg C := ⟨⟨pgC, hdC, poC, saC⟩, nkC, PySem.W.mg_of X G a_C⟩
  refine ⟨PySem.W.fnOf "law" "law" (defArgs sLaw) (defBody sLaw) (defScope sLaw) .none kV_law dc_law pm_law an_law cd_law ct_law, fun s v => .of_eq rfl, fun base _ _ => ?_⟩
  have g_begin := ok_begin (P := l.prog) (w := w) (base := base) D_begin B
  have g_next := ok_next (P := l.prog) (w := w) (base := base) D_next D_more B
  have g_pick := ok_pick (P := l.prog) (w := w) (base := base) D_pick D_next g_next B
  have g_word := ok_word (P := l.prog) (w := w) (base := base) D_word D_pick D_next g_next B
  have g_names := ok_names (P := l.prog) (w := w) (base := base) D_names D_word g_word B
  have g_tree := ok_tree (P := l.prog) (w := w) (base := base) D_tree D_next g_next D_pick D_names g_names B
  have g_turned := ok_turned (P := l.prog) (w := w) (base := base) D_turned D_next g_next B
  have g_isRoom := ok_isRoom (P := l.prog) (w := w) (base := base) D_isRoom D_isName B Cc
  have g_areRooms := ok_areRooms (P := l.prog) (w := w) (base := base) D_areRooms D_isRow D_isRoom g_isRoom B Cc
  have g_init := ok_init (P := l.prog) (w := w) (base := base) F_init D_areRooms g_areRooms T B
  have g_need := ok_need (P := l.prog) (w := w) (base := base) M_need D_isRoom g_isRoom T
  have g_rooms := ok_rooms (P := l.prog) (w := w) (base := base) M_rooms T B
  have g_inside := ok_inside (P := l.prog) (w := w) (base := base) M_inside M_need g_need T
  have g_beneath := ok_beneath (P := l.prog) (w := w) (base := base) M_beneath M_need g_need T B
  have g_over := ok_over (P := l.prog) (w := w) (base := base) M_over M_need g_need T B
  have g_ends := ok_ends (P := l.prog) (w := w) (base := base) M_ends M_inside g_inside T
  have Ms' : Ms l.prog w K mg base C _ _ _ _ _ _ _ _ _ _ := ⟨M_inside, M_beneath, M_over, M_ends, M_rooms, g_inside, g_beneath, g_over, g_ends, g_rooms⟩
  have g_right := ok_right (P := l.prog) (w := w) (base := base) D_right Ms' T B
  have g_down := ok_down (P := l.prog) (w := w) (base := base) D_down M_inside g_inside T 5
  exact ok_law D_law D_begin g_begin D_tree g_tree D_turned g_turned D_pick g_pick D_down g_down D_right g_right ⟨mkC, a_init, i_init, kcC⟩ b_init g_init Ms' T B (v0 := .ref tt)
theorem walk {l : PySem.W.OpenLaw} {q : Program} {loose : List Str} {XP : (Str → Option Value) → Heap → Prop} {YP : World → Heap → Prop} {d : DefRec} {K : Params → PySem.W.Frag} (hn : l.most = some 63) (hdf : d.params.defaults = [])
    (hY : ∀ (w : World) (h : Heap), YP w h → (K w.params).In h)
    (F : ∀ (w : World) (mg : Str → Option Value) (fa : Addr) (h : Heap), (K w.params).In h → h.Ns mainGlobals mg → mg d.name = some (.ref fa) →
      ∃ fd : FuncData, (∀ (s : Shared) (u : Value), BindsTo s fd ⟨[u], []⟩ [("_law_script", u)]) ∧ ∀ base : Heap, (K w.params).In base → base.Ns mainGlobals mg → FnOk l.prog w (K w.params) mg base CX0 10 fa fd ["_law_script"] (spLaw (K w.params))) :
    PySem.W.WalkO q loose XP YP l.row.toRowW d [] (fun f vs => PySem.call f vs) :=
  L2.walk_of (n := 63) (k := 10) (x := "_law_script") (CX := fun _ => CX0) (sp := fun w => spLaw (K w.params)) hn (by decide) hdf ⟨rfl, by decide, by decide⟩ hY F (fun _ _ a ns hl _ hS => ⟨a, ns, rfl, hS, hl, fun _ => rfl⟩) fun _ _ _ _ _ z => z
end Ho
end

set_option Elab.async false
set_option maxRecDepth 100000
open PySem PySem.W PyProof.Rows
set_option maxRecDepth 100000 in
set_option maxHeartbeats 0 in
theorem PySem.Challenge.cw_holdtree_k09_whole_trees_put_together_holds : PySem.Challenge.rw_holdtree_k09_whole_trees_put_together.Holds := by
  w_on; o_law; k_head; (case hw => w_witness2)
  k_fill
  refine Ho.walk (l := PySem.Challenge.rw_holdtree_k09_whole_trees_put_together) rfl rfl (fun w h Y => PySem.W.kIn_of Y) ?F
  case F =>
    intro w mg fa h KX G hmg
    refine' Ho.all_mk KX G hmg ?a_begin ?l_begin ?c_begin ?k_begin ?a_more ?l_more ?c_more ?k_more ?a_next ?l_next ?c_next ?k_next ?a_pick ?l_pick ?c_pick ?k_pick ?a_word ?l_word ?c_word ?k_word ?a_names ?l_names ?c_names ?k_names ?a_tree ?l_tree ?c_tree ?k_tree ?a_turned ?l_turned ?c_turned ?k_turned ?a_down ?l_down ?c_down ?k_down ?a_right ?l_right ?c_right ?k_right ?a_law ?l_law ?c_law ?k_law ?a_isName ?l_isName ?c_isName ?k_isName ?a_isRow ?l_isRow ?c_isRow ?k_isRow ?a_isRoom ?l_isRoom ?c_isRoom ?k_isRoom ?a_areRooms ?l_areRooms ?c_areRooms ?k_areRooms ?a_C ?a_need ?i_need ?l_need ?c_need ?k_need ?a_rooms ?i_rooms ?l_rooms ?c_rooms ?k_rooms ?a_inside ?i_inside ?l_inside ?c_inside ?k_inside ?a_beneath ?i_beneath ?l_beneath ?c_beneath ?k_beneath ?a_over ?i_over ?l_over ?c_over ?k_over ?a_ends ?i_ends ?l_ends ?c_ends ?k_ends ?a_init ?i_init ?l_init ?c_init ?k_init ?l_T ?pgC ?hdC ?poC ?saC ?mkC ?kcC ?nkC ?a_letters ?a_longest ?a_most ?a_deepest ?z_len ?z_range ?z_list ?z_tuple ?z_set ?z_str ?z_all ?z_sorted ?z_isinstance
    (case a_begin => k_is)
    (case l_begin => k_is)
    (case c_begin => k_is)
    (case k_begin => k_is)
    (case a_more => k_is)
    (case l_more => k_is)
    (case c_more => k_is)
    (case k_more => k_is)
    (case a_next => k_is)
    (case l_next => k_is)
    (case c_next => k_is)
    (case k_next => k_is)
    (case a_pick => k_is)
    (case l_pick => k_is)
    (case c_pick => k_is)
    (case k_pick => k_is)
    (case a_word => k_is)
    (case l_word => k_is)
    (case c_word => k_is)
    (case k_word => k_is)
    (case a_names => k_is)
    (case l_names => k_is)
    (case c_names => k_is)
    (case k_names => k_is)
    (case a_tree => k_is)
    (case l_tree => k_is)
    (case c_tree => k_is)
    (case k_tree => k_is)
    (case a_turned => k_is)
    (case l_turned => k_is)
    (case c_turned => k_is)
    (case k_turned => k_is)
    (case a_down => k_is)
    (case l_down => k_is)
    (case c_down => k_is)
    (case k_down => k_is)
    (case a_right => k_is)
    (case l_right => k_is)
    (case c_right => k_is)
    (case k_right => k_is)
    (case a_law => k_is)
    (case l_law => k_is)
    (case c_law => k_is)
    (case k_law => k_is)
    (case a_isName => k_is)
    (case l_isName => k_is)
    (case c_isName => k_is)
    (case k_isName => k_is)
    (case a_isRow => k_is)
    (case l_isRow => k_is)
    (case c_isRow => k_is)
    (case k_isRow => k_is)
    (case a_isRoom => k_is)
    (case l_isRoom => k_is)
    (case c_isRoom => k_is)
    (case k_isRoom => k_is)
    (case a_areRooms => k_is)
    (case l_areRooms => k_is)
    (case c_areRooms => k_is)
    (case k_areRooms => k_is)
    (case a_C => k_is)
    (case a_need => k_is)
    (case i_need => k_is)
    (case l_need => k_is)
    (case c_need => k_is)
    (case k_need => k_is)
    (case a_rooms => k_is)
    (case i_rooms => k_is)
    (case l_rooms => k_is)
    (case c_rooms => k_is)
    (case k_rooms => k_is)
    (case a_inside => k_is)
    (case i_inside => k_is)
    (case l_inside => k_is)
    (case c_inside => k_is)
    (case k_inside => k_is)
    (case a_beneath => k_is)
    (case i_beneath => k_is)
    (case l_beneath => k_is)
    (case c_beneath => k_is)
    (case k_beneath => k_is)
    (case a_over => k_is)
    (case i_over => k_is)
    (case l_over => k_is)
    (case c_over => k_is)
    (case k_over => k_is)
    (case a_ends => k_is)
    (case i_ends => k_is)
    (case l_ends => k_is)
    (case c_ends => k_is)
    (case k_ends => k_is)
    (case a_init => k_is)
    (case i_init => k_is)
    (case l_init => k_is)
    (case c_init => k_is)
    (case k_init => k_is)
    (case l_T => k_is)
    (case pgC => k_is)
    (case hdC => k_is)
    (case poC => k_is)
    (case saC => k_is)
    (case mkC => k_is)
    (case kcC => k_is)
    (case nkC => k_is)
    (case a_letters => k_is)
    (case a_longest => k_is)
    (case a_most => k_is)
    (case a_deepest => k_is)
    (case z_len => k_is)
    (case z_range => k_is)
    (case z_list => k_is)
    (case z_tuple => k_is)
    (case z_set => k_is)
    (case z_str => k_is)
    (case z_all => k_is)
    (case z_sorted => k_is)
    (case z_isinstance => k_is)
