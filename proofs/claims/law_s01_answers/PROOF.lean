import PyProof.Rows.All
import Wide.All
import OpenK.AllK
import Wide.FinOn
import PyProof.EqAt
import PyProof.EqKinds
import PyProof.TupleCall
import HandS.ForMost
import HandS.ForSpec
import Open.SpecLaws
import KE.OsGo
import HandS.Walk
import HandS.Style
import HandS.Deep
import HandS.SortInts
import HandS.SortRule
import HandS.Defaults
import HandS.HeadHook2
import PySem.Challenge.RW_linegrafts_s01_answers
import HandS.Strs
import HandS.SetFor
import HandS.TupSets
import KE.HD4
import HandS.Spec
import PyGf13

-- ==== Lg1 ====
set_option Elab.async false
set_option linter.all false
/-! Lg1: the plain laws of sorted lists, requirements, reachability, order. No program in sight. -/
namespace Lg
open Gf11 (Line Position Change Hunk insertNat)

/-! ### sorted lists of numbers -/
abbrev Up (l : List Nat) : Prop := l.Pairwise (· < ·)
theorem mem_ins {x y : Nat} : ∀ {l : List Nat}, y ∈ insertNat x l ↔ y = x ∨ y ∈ l
  | [] => by simp [insertNat]
  | z :: l => by
    unfold insertNat
    split
    · rename_i e
      subst e
      simp
    · split
      · simp
      · simp only [List.mem_cons, mem_ins (l := l)]
        grind
theorem up_ins {x : Nat} : ∀ {l : List Nat}, Up l → Up (insertNat x l)
  | [], _ => by simp [insertNat, Up]
  | z :: l, h => by
    have h0 := h
    rw [Up, List.pairwise_cons] at h
    unfold insertNat
    split
    · exact h0
    · split
      · rw [Up, List.pairwise_cons]
        refine ⟨fun a ha => ?_, h0⟩
        rcases List.mem_cons.mp ha with e | ha
        · omega
        · have := h.1 a ha
          omega
      · rw [Up, List.pairwise_cons]
        refine ⟨fun a ha => ?_, up_ins h.2⟩
        rcases mem_ins.mp ha with e | ha
        · omega
        · exact h.1 a ha
theorem mem_fold {y : Nat} : ∀ {ns l : List Nat}, y ∈ ns.foldl (fun r q => insertNat q r) l ↔ y ∈ l ∨ y ∈ ns
  | [], l => by simp
  | n :: ns, l => by
    rw [List.foldl_cons, mem_fold (ns := ns), mem_ins, List.mem_cons]
    grind
theorem up_fold : ∀ {ns l : List Nat}, Up l → Up (ns.foldl (fun r q => insertNat q r) l)
  | [], _, h => h
  | n :: ns, l, h => by
    rw [List.foldl_cons]
    exact up_fold (up_ins h)
/-- two rising lists with the same members are one -/
theorem up_ext : ∀ {l m : List Nat}, Up l → Up m → (∀ x, x ∈ l ↔ x ∈ m) → l = m
  | [], [], _, _, _ => rfl
  | [], b :: m, _, _, h => by
    have := (h b).mpr List.mem_cons_self
    cases this
  | a :: l, [], _, _, h => by
    have := (h a).mp List.mem_cons_self
    cases this
  | a :: l, b :: m, hl, hm, h => by
    rw [Up, List.pairwise_cons] at hl hm
    have e : a = b := by
      have h1 := (h a).mp List.mem_cons_self
      have h2 := (h b).mpr List.mem_cons_self
      rcases List.mem_cons.mp h1 with e | h1
      · exact e
      · rcases List.mem_cons.mp h2 with e | h2
        · exact e.symm
        · have := hl.1 b h2
          have := hm.1 a h1
          omega
    subst e
    congr 1
    refine up_ext hl.2 hm.2 fun x => ⟨fun hx => ?_, fun hx => ?_⟩
    · rcases List.mem_cons.mp ((h x).mp (List.mem_cons_of_mem _ hx)) with e | q
      · have := hl.1 x hx
        omega
      · exact q
    · rcases List.mem_cons.mp ((h x).mpr (List.mem_cons_of_mem _ hx)) with e | q
      · have := hm.1 x hx
        omega
      · exact q
theorem up_nodup {l : List Nat} (h : Up l) : l.Nodup := List.Pairwise.imp (fun h e => by omega) h
/-- a rising list of numbers below n has at most n of them -/
theorem up_len : ∀ {l : List Nat} {k n : Nat}, Up l → (∀ x ∈ l, k ≤ x ∧ x < n) → l.length ≤ n - k
  | [], _, _, _, _ => by simp
  | a :: l, k, n, h, hb => by
    rw [Up, List.pairwise_cons] at h
    have h0 := hb a List.mem_cons_self
    have := up_len (l := l) (k := a + 1) (n := n) h.2 fun x hx => ⟨h.1 x hx, (hb x (List.mem_cons_of_mem _ hx)).2⟩
    simp only [List.length_cons]
    omega
theorem up_len0 {l : List Nat} {n : Nat} (h : Up l) (hb : ∀ x ∈ l, x < n) : l.length ≤ n := by
  have := up_len (k := 0) h fun x hx => ⟨Nat.zero_le _, hb x hx⟩
  omega
/-- the number n above all others comes last -/
theorem up_snoc {l : List Nat} {n : Nat} (h : Up l) (hb : ∀ x ∈ l, x < n) : Up (l ++ [n]) := by
  rw [Up, List.pairwise_append]
  exact ⟨h, by simp, fun a ha b hb' => by rw [List.mem_singleton.mp hb']; exact hb a ha⟩

/-! ### dependencies -/
theorem mem_deps {c : Change} {p : Nat} : p ∈ Gf11.dependencies c ↔ (∃ h ∈ c.hunks, p ∈ Gf11.changeOf h.before ∨ p ∈ Gf11.changeOf h.after) ∨ ∃ d ∈ c.deleted, p ∈ Gf11.changeOf d := by
  unfold Gf11.dependencies Gf11.sortNumbers
  rw [mem_fold]
  simp only [List.not_mem_nil, false_or, List.mem_append, List.mem_flatMap]
theorem up_deps (c : Change) : Up (Gf11.dependencies c) := up_fold (by simp)

/-! ### requirements -/
abbrev depsOf (s : Gf11.State) (p : Nat) : List Nat := Gf13.dependenciesOf s p
/-- x is required by p over k steps -/
inductive Rq (s : Gf11.State) : Nat → Nat → Nat → Prop where
  | zero (p : Nat) : Rq s p 0 p
  | succ {p q k x : Nat} : q ∈ depsOf s p → Rq s q k x → Rq s p (k + 1) x
theorem Rq.snoc {s : Gf11.State} {p k x y : Nat} (h : Rq s p k x) (hy : y ∈ depsOf s x) : Rq s p (k + 1) y := by
  induction h with
  | zero p => exact .succ hy (.zero y)
  | succ hq _ ih => exact .succ hq (ih hy)
def DownDeps (s : Gf11.State) : Prop := ∀ p q, q ∈ depsOf s p → q < p
theorem Rq.le {s : Gf11.State} (hd : DownDeps s) {p k x : Nat} (h : Rq s p k x) : k + x ≤ p := by
  induction h with
  | zero p => omega
  | succ hq _ ih =>
    have := hd _ _ hq
    omega
abbrev more (s : Gf11.State) (l : List Nat) : List Nat := (l.flatMap (depsOf s)).foldl (fun r q => insertNat q r) l
theorem mem_more {s : Gf11.State} {l : List Nat} {x : Nat} : x ∈ more s l ↔ x ∈ l ∨ ∃ p ∈ l, x ∈ depsOf s p := by
  unfold more
  rw [mem_fold, List.mem_flatMap]
theorem closure_sound {s : Gf11.State} : ∀ (f : Nat) (l : List Nat) (x : Nat), x ∈ Gf13.closure s f l → ∃ p ∈ l, ∃ k, Rq s p k x
  | 0, l, x, h => ⟨x, h, 0, .zero x⟩
  | f + 1, l, x, h => by
    obtain ⟨p, hp, k, hk⟩ := closure_sound f (more s l) x h
    rcases mem_more.mp hp with hp | ⟨q, hq, hp⟩
    · exact ⟨p, hp, k, hk⟩
    · exact ⟨q, hq, k + 1, .succ hp hk⟩
theorem closure_full {s : Gf11.State} : ∀ (f : Nat) (l : List Nat) (x p k : Nat), p ∈ l → Rq s p k x → k ≤ f → x ∈ Gf13.closure s f l
  | 0, l, x, p, k, hp, h, hk => by
    obtain rfl : k = 0 := by omega
    cases h
    exact hp
  | f + 1, l, x, p, k, hp, h, hk => by
    show x ∈ Gf13.closure s f (more s l)
    cases h with
    | zero => exact closure_full f _ _ _ 0 (mem_more.mpr (.inl hp)) (.zero _) (by omega)
    | succ hq h => exact closure_full f _ _ _ _ (mem_more.mpr (.inr ⟨p, hp, hq⟩)) h (by omega)
theorem up_closure {s : Gf11.State} : ∀ (f : Nat) (l : List Nat), Up l → Up (Gf13.closure s f l)
  | 0, _, h => h
  | f + 1, l, h => up_closure f _ (up_fold h)
theorem mem_all {s : Gf11.State} (hd : DownDeps s) {p x : Nat} : x ∈ Gf13.allDependencies s p ↔ ∃ k, Rq s p k x := by
  unfold Gf13.allDependencies
  constructor
  · intro h
    obtain ⟨q, hq, k, hk⟩ := closure_sound _ _ _ h
    rw [List.mem_singleton.mp hq] at hk
    exact ⟨k, hk⟩
  · rintro ⟨k, hk⟩
    have := hk.le hd
    exact closure_full _ _ _ p k (List.mem_singleton.mpr rfl) hk (by omega)
theorem up_all (s : Gf11.State) (p : Nat) : Up (Gf13.allDependencies s p) := up_closure _ _ (by simp)
theorem all_le {s : Gf11.State} (hd : DownDeps s) {p x : Nat} (h : x ∈ Gf13.allDependencies s p) : x ≤ p := by
  obtain ⟨k, hk⟩ := (mem_all hd).mp h
  have := hk.le hd
  omega
/-- what the program's worklist leaves: it holds p, is closed, and nothing else is in it -/
theorem all_of {s : Gf11.State} (hd : DownDeps s) {p : Nat} {l : List Nat} (hp : p ∈ l) (hc : ∀ q ∈ l, ∀ r ∈ depsOf s q, r ∈ l) (ho : ∀ x ∈ l, ∃ k, Rq s p k x) {m : List Nat} (hm : Up m) (hml : ∀ x, x ∈ m ↔ x ∈ l) : m = Gf13.allDependencies s p := by
  refine up_ext hm (up_all s p) fun x => ?_
  rw [hml, mem_all hd]
  refine ⟨ho x, ?_⟩
  rintro ⟨k, hk⟩
  clear hml hm ho
  induction hk with
  | zero => exact hp
  | succ hq _ ih => exact ih (hc _ hp _ hq)

/-! ### reachability -/
abbrev Edges := List (Position × Position)
inductive Rch (es : Edges) : Position → Position → Prop where
  | one {x y : Position} : (x, y) ∈ es → Rch es x y
  | snoc {x y z : Position} : Rch es x y → (y, z) ∈ es → Rch es x z
theorem Rch.head {es : Edges} {x y z : Position} (h : (x, y) ∈ es) (r : Rch es y z) : Rch es x z := by
  induction r with
  | one h2 => exact .snoc (.one h) h2
  | snoc _ h2 ih => exact .snoc ih h2
theorem Rch.trans {es : Edges} {x y z : Position} (a : Rch es x y) (b : Rch es y z) : Rch es x z := by
  induction b with
  | one h2 => exact .snoc a h2
  | snoc _ h2 ih => exact .snoc ih h2
theorem Rch.mono {es es' : Edges} (h : ∀ e ∈ es, e ∈ es') {x y : Position} (r : Rch es x y) : Rch es' x y := by
  induction r with
  | one h2 => exact .one (h _ h2)
  | snoc _ h2 ih => exact .snoc ih (h _ h2)
theorem Rch.rank {es : Edges} {r : Position → Nat} (hr : ∀ e ∈ es, r e.1 < r e.2) {x y : Position} (h : Rch es x y) : r x < r y := by
  induction h with
  | one h2 => exact hr _ h2
  | snoc _ h2 ih =>
    have := hr _ h2
    simp only at this
    omega
abbrev newOf (es : Edges) (l : List Position) : List Position := (es.filter fun e => l.contains e.1 && !l.contains e.2).map fun e => e.2
theorem mem_newOf {es : Edges} {l : List Position} {y : Position} : y ∈ newOf es l ↔ ∃ x ∈ l, (x, y) ∈ es ∧ y ∉ l := by
  unfold newOf
  rw [List.mem_map]
  constructor
  · rintro ⟨⟨x, y'⟩, h, rfl⟩
    rw [List.mem_filter] at h
    refine ⟨x, ?_, h.1, ?_⟩ <;> grind
  · rintro ⟨x, hx, he, hy⟩
    refine ⟨(x, y), ?_, rfl⟩
    rw [List.mem_filter]
    grind
theorem reach_sound {es : Edges} : ∀ (f : Nat) (l : List Position) (y : Position), y ∈ Gf11.reachableFrom es f l → y ∈ l ∨ ∃ x ∈ l, Rch es x y
  | 0, _, _, h => .inl h
  | f + 1, l, y, h => by
    have h' : y ∈ (if (newOf es l).isEmpty = true then l else Gf11.reachableFrom es f (l ++ (newOf es l).eraseDups)) := h
    split at h'
    · exact .inl h'
    · rcases reach_sound f _ _ h' with h1 | ⟨x, hx, r⟩
      · rcases List.mem_append.mp h1 with h1 | h1
        · exact .inl h1
        · rw [List.mem_eraseDups] at h1
          obtain ⟨x, hx, he, _⟩ := mem_newOf.mp h1
          exact .inr ⟨x, hx, .one he⟩
      · rcases List.mem_append.mp hx with h1 | h1
        · exact .inr ⟨x, h1, r⟩
        · rw [List.mem_eraseDups] at h1
          obtain ⟨z, hz, he, _⟩ := mem_newOf.mp h1
          exact .inr ⟨z, hz, Rch.head he r⟩
theorem reach_has {es : Edges} : ∀ (f : Nat) (l : List Position) (y : Position), y ∈ l → y ∈ Gf11.reachableFrom es f l
  | 0, _, _, h => h
  | f + 1, l, y, h => by
    show y ∈ (if (newOf es l).isEmpty = true then l else Gf11.reachableFrom es f (l ++ (newOf es l).eraseDups))
    split
    · exact h
    · exact reach_has f _ _ (List.mem_append_left _ h)
abbrev outside (es : Edges) (l : List Position) : List (Position × Position) := es.filter fun e => !l.contains e.2
theorem reach_closed {es : Edges} : ∀ (f : Nat) (l : List Position), (outside es l).length ≤ f → ∀ x y, x ∈ Gf11.reachableFrom es f l → (x, y) ∈ es → y ∈ Gf11.reachableFrom es f l
  | 0, l, h, x, y, hx, he => by
    show y ∈ l
    have h0 : outside es l = [] := List.eq_nil_of_length_eq_zero (by omega)
    unfold outside at h0
    rw [List.filter_eq_nil_iff] at h0
    have := h0 _ he
    grind
  | f + 1, l, h, x, y, hx, he => by
    have ex : Gf11.reachableFrom es (f + 1) l = (if (newOf es l).isEmpty = true then l else Gf11.reachableFrom es f (l ++ (newOf es l).eraseDups)) := rfl
    rw [ex] at hx ⊢
    by_cases c : (newOf es l).isEmpty = true
    · rw [if_pos c] at hx ⊢
      by_cases hy : y ∈ l
      · exact hy
      · have : y ∈ newOf es l := mem_newOf.mpr ⟨x, hx, he, hy⟩
        rw [List.isEmpty_iff.mp c] at this
        cases this
    · rw [if_neg c] at hx ⊢
      refine reach_closed f _ ?_ x y hx he
      -- fewer edges lead outside
      obtain ⟨z, hz⟩ : ∃ z, z ∈ newOf es l := by
        cases e : newOf es l with
        | nil =>
          rw [e] at c
          exact absurd rfl c
        | cons a _ => exact ⟨a, List.mem_cons_self⟩
      obtain ⟨u, hu, hue, hzl⟩ := mem_newOf.mp hz
      have h1 : (outside es (l ++ (newOf es l).eraseDups)).length < (outside es l).length := by
        have e1 : outside es (l ++ (newOf es l).eraseDups) = (outside es l).filter fun e => !(newOf es l).contains e.2 := by
          unfold outside
          rw [List.filter_filter]
          congr 1
          funext e
          have : ((l ++ (newOf es l).eraseDups).contains e.2) = (l.contains e.2 || (newOf es l).contains e.2) := by
            rw [Bool.eq_iff_iff]
            simp only [List.contains_iff_mem, List.mem_append, List.mem_eraseDups, Bool.or_eq_true]
          rw [this, Bool.not_or, Bool.and_comm]
        rw [e1]
        refine Nat.lt_of_le_of_ne (List.length_filter_le _ _) fun q => ?_
        have q2 := List.length_filter_eq_length_iff.mp q
        have m : (u, z) ∈ outside es l := by
          unfold outside
          rw [List.mem_filter]
          grind
        have := q2 _ m
        grind
      omega
theorem mem_reach {es : Edges} {x y : Position} : y ∈ Gf11.reachableFrom es (es.length + 1) [x] ↔ y = x ∨ Rch es x y := by
  constructor
  · intro h
    rcases reach_sound _ _ _ h with h | ⟨z, hz, r⟩
    · exact .inl (List.mem_singleton.mp h)
    · rw [List.mem_singleton.mp hz] at r
      exact .inr r
  · have h0 : x ∈ Gf11.reachableFrom es (es.length + 1) [x] := reach_has _ _ _ (List.mem_singleton.mpr rfl)
    have hl : (outside es [x]).length ≤ es.length + 1 := Nat.le_succ_of_le (List.length_filter_le _ _)
    rintro (rfl | r)
    · exact h0
    · induction r with
      | one he => exact reach_closed _ _ hl _ _ h0 he
      | snoc _ he ih => exact reach_closed _ _ hl _ _ ih he
end Lg

-- ==== Lg2 ====
set_option Elab.async false
set_option linter.all false
/-! Lg2: the plain laws of the order of visible lines, of conflicts, of common lines. -/
namespace Lg
open Gf11 (Line Position Change Hunk insertNat)

/-! ### before -/
abbrev PL := List (Position × Line)
theorem before_iff {es : Edges} {l : PL} {x y : Position} (hx : x ∈ l.map (·.1)) (ne : x ≠ y) : Gf11.isBefore (Gf11.orderTable es l) x y = true ↔ Rch es x y := by
  unfold Gf11.isBefore
  have hf : ((Gf11.orderTable es l).find? fun z => z.1 == x) = some (x, Gf11.reachableFrom es (es.length + 1) [x]) := by
    unfold Gf11.orderTable
    rw [List.find?_map]
    have : ∃ p, (l.find? ((fun (z : Position × List Position) => z.1 == x) ∘ fun p => (p.1, Gf11.reachableFrom es (es.length + 1) [p.1]))) = some p ∧ p.1 = x := by
      obtain ⟨p, hp, e⟩ := List.mem_map.mp hx
      cases h : (l.find? ((fun (z : Position × List Position) => z.1 == x) ∘ fun p => (p.1, Gf11.reachableFrom es (es.length + 1) [p.1]))) with
      | none =>
        have := List.find?_eq_none.mp h p hp
        simp [e] at this
      | some q =>
        have := List.find?_some h
        simp at this
        exact ⟨q, rfl, this⟩
    obtain ⟨p, e1, e2⟩ := this
    rw [e1]
    simp [e2]
  rw [hf]
  simp only [Option.map_some, Option.getD_some, Bool.and_eq_true, bne_iff_ne, ne_eq, List.contains_iff_mem]
  rw [mem_reach]
  constructor
  · rintro ⟨_, e | r⟩
    · exact absurd e.symm ne
    · exact r
  · intro r
    exact ⟨ne, .inr r⟩
theorem before_self {t : Gf11.OrderTable} {x : Position} : Gf11.isBefore t x x = false := by
  simp [Gf11.isBefore]

/-! ### the order by a relation on positions -/
/-- the first of some positions that none of them precedes -/
def firstOf (b : Position → Position → Bool) (l : List Position) : Option Position := l.find? fun x => l.all fun y => !b y x
def linOf (b : Position → Position → Bool) : Nat → List Position → List Position
  | 0, _ => []
  | f + 1, l => match firstOf b l with
    | none => []
    | some x => x :: linOf b f (l.filter fun y => y != x)
theorem lin_map (t : Gf11.OrderTable) : ∀ (f : Nat) (l : PL), (Gf11.linearize t f l).map (·.1) = linOf (Gf11.isBefore t) f (l.map (·.1))
  | 0, _ => rfl
  | f + 1, l => by
    have e1 : firstOf (Gf11.isBefore t) (l.map (·.1)) = (Gf11.firstMinimal t l).map (·.1) := by
      unfold firstOf Gf11.firstMinimal
      rw [List.find?_map]
      congr 1
      congr 1
      funext x
      simp only [Function.comp_def, List.all_map]
    unfold linOf Gf11.linearize
    rw [e1]
    cases h : Gf11.firstMinimal t l with
    | none => rfl
    | some x =>
      simp only [Option.map_some, List.map_cons]
      rw [lin_map t f]
      congr 2
      rw [List.filter_map]
      rfl
/-- with ranks that rise along b there is always a first one -/
theorem first_some {b : Position → Position → Bool} {r : Position → Nat} {l : List Position} (hb : ∀ x ∈ l, ∀ y ∈ l, b x y = true → r x < r y) (h : l ≠ []) : ∃ x, firstOf b l = some x ∧ x ∈ l := by
  -- one of least rank
  have : ∀ (m : List Position), m ≠ [] → ∃ x ∈ m, ∀ y ∈ m, r x ≤ r y := by
    intro m
    induction m with
    | nil => intro h; exact absurd rfl h
    | cons a m ih =>
      intro _
      by_cases hm : m = []
      · subst hm
        exact ⟨a, List.mem_cons_self, fun y hy => by rw [List.mem_singleton.mp hy]; exact Nat.le_refl _⟩
      · obtain ⟨x, hx, hl⟩ := ih hm
        by_cases c : r a ≤ r x
        · refine ⟨a, List.mem_cons_self, fun y hy => ?_⟩
          rcases List.mem_cons.mp hy with e | hy
          · rw [e]
            exact Nat.le_refl _
          · exact Nat.le_trans c (hl y hy)
        · refine ⟨x, List.mem_cons_of_mem _ hx, fun y hy => ?_⟩
          rcases List.mem_cons.mp hy with e | hy
          · rw [e]
            omega
          · exact hl y hy
  obtain ⟨x, hx, hmin⟩ := this l h
  cases e : firstOf b l with
  | some y => exact ⟨y, rfl, List.mem_of_find?_eq_some e⟩
  | none =>
    have := List.find?_eq_none.mp e x hx
    simp only [List.all_eq_true, Bool.not_eq_true', Classical.not_forall] at this
    obtain ⟨y, hy, hb2⟩ := this
    have hb3 : b y x = true := by
      cases q : b y x with
      | true => rfl
      | false => exact absurd q hb2
    have := hb y hy x hx hb3
    have := hmin y hy
    omega
theorem len_filter_ne {x : Position} : ∀ {l : List Position}, l.Nodup → x ∈ l → (l.filter fun y => y != x).length + 1 = l.length
  | [], _, h => by cases h
  | a :: l, hn, h => by
    rw [List.nodup_cons] at hn
    by_cases e : a = x
    · subst e
      have : (l.filter fun y => y != a) = l := List.filter_eq_self.mpr fun y hy => by
        simp only [bne_iff_ne, ne_eq]
        rintro rfl
        exact hn.1 hy
      rw [List.filter_cons, if_neg (by simp), this]
      rfl
    · rw [List.filter_cons, if_pos (by simp [e])]
      rcases List.mem_cons.mp h with q | h
      · exact absurd q.symm e
      · have := len_filter_ne hn.2 h
        simp only [List.length_cons]
        omega
/-- one turn of the order -/
theorem lin_turn {b : Position → Position → Bool} {l : List Position} {x : Position} (hn : l.Nodup) (hx : firstOf b l = some x) : linOf b l.length l = x :: linOf b (l.filter fun y => y != x).length (l.filter fun y => y != x) := by
  have hm : x ∈ l := List.mem_of_find?_eq_some hx
  have := len_filter_ne hn hm
  rw [← this, linOf, hx]
theorem filter_ranks {b : Position → Position → Bool} {r : Position → Nat} {l : List Position} {p : Position → Bool} (hb : ∀ x ∈ l, ∀ y ∈ l, b x y = true → r x < r y) : ∀ x ∈ l.filter p, ∀ y ∈ l.filter p, b x y = true → r x < r y :=
  fun x hx y hy => hb x (List.mem_filter.mp hx).1 y (List.mem_filter.mp hy).1
/-- the order is a permutation, and no later one precedes an earlier one -/
theorem lin_perm {b : Position → Position → Bool} {r : Position → Nat} : ∀ (n : Nat) {l : List Position}, l.length = n → l.Nodup → (∀ x ∈ l, ∀ y ∈ l, b x y = true → r x < r y) →
    (linOf b l.length l).Perm l ∧ (linOf b l.length l).Pairwise fun x y => b y x = false
  | 0, l, hl, _, _ => by
    obtain rfl := List.eq_nil_of_length_eq_zero hl
    exact ⟨.refl _, .nil⟩
  | n + 1, l, hl, hn, hb => by
    obtain ⟨x, hx, hm⟩ := first_some hb (by rintro rfl; cases hl)
    rw [lin_turn hn hx]
    have hlen := len_filter_ne hn hm
    obtain ⟨hp, hw⟩ := lin_perm n (l := l.filter fun y => y != x) (by omega) (hn.filter _) (filter_ranks hb)
    have hall : ∀ y ∈ l, b y x = false := by
      have := List.find?_some hx
      simpa using this
    refine ⟨?_, ?_⟩
    · have p1 : (x :: l.filter fun y => y != x).Perm l := by
        have : l.filter (fun y => y != x) = l.erase x := by
          rw [List.Nodup.erase_eq_filter hn]
        rw [this]
        exact (List.perm_cons_erase hm).symm
      exact (hp.cons x).trans p1
    · rw [List.pairwise_cons]
      exact ⟨fun y hy => hall y (List.mem_filter.mp (hp.mem_iff.mp hy)).1, hw⟩
theorem linOf_congr {b b' : Position → Position → Bool} : ∀ (f : Nat) (l : List Position), (∀ x ∈ l, ∀ y ∈ l, b x y = b' x y) → linOf b f l = linOf b' f l
  | 0, _, _ => rfl
  | f + 1, l, h => by
    have e : firstOf b l = firstOf b' l := by
      unfold firstOf
      have : ∀ (p q : Position → Bool) (m : List Position), (∀ x ∈ m, p x = q x) → m.find? p = m.find? q := by
        intro p q m
        induction m with
        | nil => intro _; rfl
        | cons a m ih =>
          intro hpq
          rw [List.find?_cons, List.find?_cons, hpq a List.mem_cons_self, ih fun x hx => hpq x (List.mem_cons_of_mem _ hx)]
      refine this _ _ _ fun x hx => ?_
      rw [Bool.eq_iff_iff]
      simp only [List.all_eq_true]
      exact ⟨fun q y hy => by rw [← h y hy x hx]; exact q y hy, fun q y hy => by rw [h y hy x hx]; exact q y hy⟩
    unfold linOf
    rw [e]
    cases firstOf b' l with
    | none => rfl
    | some x =>
      show x :: _ = x :: _
      rw [linOf_congr f _ fun y hy z hz => h y (List.mem_filter.mp hy).1 z (List.mem_filter.mp hz).1]

/-! ### pairs -/
theorem pairs_eq {A : Type} : ∀ (l : List A), Gf11.pairs l = (List.range l.length).flatMap fun i => match l[i]? with
    | none => []
    | some x => (l.drop (i + 1)).map fun y => (x, y)
  | [] => rfl
  | x :: l => by
    show l.map (fun y => (x, y)) ++ Gf11.pairs l = _
    rw [pairs_eq l, List.length_cons, List.range_succ_eq_map, List.flatMap_cons, List.flatMap_map]
    rfl
def pairsTo {A : Type} (l : List A) (n : Nat) : List (A × A) := (List.range n).flatMap fun i => match l[i]? with
  | none => []
  | some x => (l.drop (i + 1)).map fun y => (x, y)
theorem pairsTo_all {A : Type} (l : List A) : pairsTo l l.length = Gf11.pairs l := (pairs_eq l).symm
theorem pairsTo_succ {A : Type} {l : List A} {n : Nat} {x : A} (h : l[n]? = some x) : pairsTo l (n + 1) = pairsTo l n ++ (l.drop (n + 1)).map fun y => (x, y) := by
  unfold pairsTo
  rw [List.range_succ, List.flatMap_append, List.flatMap_cons, List.flatMap_nil, List.append_nil, h]

/-! ### common lines -/
theorem lcsRow_drop (x : Line) (y : Line) (r : List Line) (p : List Nat) : (Gf11.lcsRow x (y :: r) p).drop 1 = Gf11.lcsRow x r (p.drop 1) := rfl
theorem lcsTable_drop : ∀ (l : List Line) (y : Line) (r : List Line), (Gf11.lcsTable l (y :: r)).drop 1 = Gf11.lcsTable l r
  | [], y, r => by
    show (List.replicate (r.length + 1 + 1) 0).drop 1 = List.replicate (r.length + 1) 0
    simp
  | x :: l, y, r => by
    show (Gf11.lcsRow x (y :: r) (Gf11.lcsTable l (y :: r))).drop 1 = Gf11.lcsRow x r (Gf11.lcsTable l r)
    rw [lcsRow_drop, lcsTable_drop l y r]
theorem lcs_nil (r : List Line) : Gf11.lcsLength [] r = 0 := by
  show (List.replicate (r.length + 1) 0).headD 0 = 0
  rfl
theorem lcs_nil2 : ∀ (l : List Line), Gf11.lcsLength l [] = 0
  | [] => rfl
  | x :: l => rfl
theorem lcs_cons (x y : Line) (l r : List Line) : Gf11.lcsLength (x :: l) (y :: r) = if x = y then 1 + Gf11.lcsLength l r else max (Gf11.lcsLength l (y :: r)) (Gf11.lcsLength (x :: l) r) := by
  show (if x = y then 1 + ((Gf11.lcsTable l (y :: r)).drop 1).headD 0 else max ((Gf11.lcsTable l (y :: r)).headD 0) ((Gf11.lcsRow x r ((Gf11.lcsTable l (y :: r)).drop 1)).headD 0)) = _
  rw [lcsTable_drop]
  rfl
theorem lcs_le : ∀ (l r : List Line), Gf11.lcsLength l r ≤ l.length
  | [], r => by rw [lcs_nil]; exact Nat.zero_le _
  | x :: l, [] => by rw [lcs_nil2]; exact Nat.zero_le _
  | x :: l, y :: r => by
    rw [lcs_cons]
    have h1 := lcs_le l r
    have h2 := lcs_le l (y :: r)
    have h3 := lcs_le (x :: l) r
    simp only [List.length_cons] at *
    split <;> omega

/-! ### edit steps without fuel -/
def df (l r : List Line) : List Gf11.Edit := Gf11.diff (l.length + r.length + 1) l r
theorem diff_fuel : ∀ (n : Nat) (f g : Nat) (l r : List Line), l.length + r.length ≤ n → n < f → n < g → Gf11.diff f l r = Gf11.diff g l r
  | n, 0, _, _, _, _, h, _ => by omega
  | n, _, 0, _, _, _, _, h => by omega
  | n, f + 1, g + 1, [], r, _, _, _ => rfl
  | n, f + 1, g + 1, x :: l, [], _, _, _ => rfl
  | 0, f + 1, g + 1, x :: l, y :: r, h, _, _ => by simp at h
  | n + 1, f + 1, g + 1, x :: l, y :: r, h, hf, hg => by
    simp only [List.length_cons] at h
    have e1 := diff_fuel n f g l r (by omega) (by omega) (by omega)
    have e2 := diff_fuel n f g l (y :: r) (by simp only [List.length_cons]; omega) (by omega) (by omega)
    have e3 := diff_fuel n f g (x :: l) r (by simp only [List.length_cons]; omega) (by omega) (by omega)
    show (if x = y then _ else if _ then _ else _) = (if x = y then _ else if _ then _ else _)
    rw [e1, e2, e3]
theorem df_nil (r : List Line) : df [] r = r.map Gf11.Edit.insert := rfl
theorem df_nil_cons (y : Line) (r : List Line) : df [] (y :: r) = .insert y :: df [] r := rfl
theorem df_cons_nil (x : Line) (l : List Line) : df (x :: l) [] = .delete :: df l [] := by
  show (x :: l).map (fun _ => Gf11.Edit.delete) = _
  rw [List.map_cons]
  congr 1
  cases l <;> rfl
theorem df_keep {x y : Line} (l r : List Line) (h : x = y) : df (x :: l) (y :: r) = .keep :: df l r := by
  show (if x = y then _ else _) = _
  rw [if_pos h]
  congr 1
  exact diff_fuel (l.length + r.length) _ _ _ _ (Nat.le_refl _) (by simp only [List.length_cons]; omega) (by omega)
theorem df_delete {x y : Line} (l r : List Line) (h : ¬ x = y) (c : Gf11.lcsLength (x :: l) r ≤ Gf11.lcsLength l (y :: r)) : df (x :: l) (y :: r) = .delete :: df l (y :: r) := by
  show (if x = y then _ else if _ then _ else _) = _
  rw [if_neg h, if_pos c]
  congr 1
  exact diff_fuel (l.length + (y :: r).length) _ _ _ _ (Nat.le_refl _) (by simp only [List.length_cons]; omega) (by omega)
theorem df_insert {x y : Line} (l r : List Line) (h : ¬ x = y) (c : ¬ Gf11.lcsLength (x :: l) r ≤ Gf11.lcsLength l (y :: r)) : df (x :: l) (y :: r) = .insert y :: df (x :: l) r := by
  show (if x = y then _ else if _ then _ else _) = _
  rw [if_neg h, if_neg c]
  congr 1

/-! ### what is deleted, what is inserted in each gap -/
def delOf : Nat → List Gf11.Edit → List Nat
  | _, [] => []
  | k, .insert _ :: es => delOf k es
  | k, .keep :: es => delOf (k + 1) es
  | k, .delete :: es => k :: delOf (k + 1) es
def headAdd (l : Line) : List (List Line) → List (List Line)
  | [] => [[l]]
  | g :: gs => (l :: g) :: gs
def insOf : List Gf11.Edit → List (List Line)
  | [] => [[]]
  | .insert l :: es => headAdd l (insOf es)
  | .keep :: es => [] :: insOf es
  | .delete :: es => [] :: insOf es
def steps : List Gf11.Edit → Nat
  | [] => 0
  | .insert _ :: es => steps es
  | .keep :: es => steps es + 1
  | .delete :: es => steps es + 1
theorem steps_df : ∀ (n : Nat) (l r : List Line), l.length + r.length ≤ n → steps (df l r) = l.length
  | _, [], [], _ => rfl
  | 0, [], y :: r, h => by simp at h
  | 0, x :: l, _, h => by simp at h
  | n + 1, [], y :: r, h => by
    rw [df_nil_cons]
    exact steps_df n [] r (by simp only [List.length_cons] at h ⊢; omega)
  | n + 1, x :: l, [], h => by
    rw [df_cons_nil]
    show steps (df l []) + 1 = l.length + 1
    rw [steps_df n l [] (by simp only [List.length_cons] at h ⊢; omega)]
  | n + 1, x :: l, y :: r, h => by
    simp only [List.length_cons] at h
    by_cases e : x = y
    · rw [df_keep l r e]
      show steps (df l r) + 1 = l.length + 1
      rw [steps_df n l r (by omega)]
    · by_cases c : Gf11.lcsLength (x :: l) r ≤ Gf11.lcsLength l (y :: r)
      · rw [df_delete l r e c]
        show steps (df l (y :: r)) + 1 = l.length + 1
        rw [steps_df n l (y :: r) (by simp only [List.length_cons]; omega)]
      · rw [df_insert l r e c]
        show steps (df (x :: l) r) = l.length + 1
        rw [steps_df n (x :: l) r (by simp only [List.length_cons]; omega), List.length_cons]
theorem insOf_len : ∀ (es : List Gf11.Edit), (insOf es).length = steps es + 1
  | [] => rfl
  | .insert l :: es => by
    show (headAdd l (insOf es)).length = steps es + 1
    rw [← insOf_len es]
    cases h : insOf es with
    | nil =>
      have := insOf_len es
      rw [h] at this
      simp at this
    | cons g gs => rfl
  | .keep :: es => by
    show (insOf es).length + 1 = steps es + 1 + 1
    rw [insOf_len es]
  | .delete :: es => by
    show (insOf es).length + 1 = steps es + 1 + 1
    rw [insOf_len es]
def headApp (new : List Line) : List (List Line) → List (List Line)
  | [] => [new]
  | g :: gs => (new ++ g) :: gs
def hunksOf : Position → List Position → List (List Line) → List Hunk
  | _, _, [] => []
  | before, old, g :: gs => (if g.isEmpty = true then [] else [⟨before, old.headD .end_, g⟩]) ++ hunksOf (old.headD .end_) (old.drop 1) gs
def pick (ps : List Position) (ns : List Nat) : List Position := ns.filterMap fun n => ps[n]?
theorem delOf_shift : ∀ (es : List Gf11.Edit) (k : Nat), delOf (k + 1) es = (delOf k es).map (· + 1)
  | [], _ => rfl
  | .insert _ :: es, k => delOf_shift es k
  | .keep :: es, k => delOf_shift es (k + 1)
  | .delete :: es, k => by
    show (k + 1) :: delOf (k + 1 + 1) es = (k + 1) :: (delOf (k + 1) es).map (· + 1)
    rw [delOf_shift es (k + 1)]
theorem pick_shift (p : Position) (ps : List Position) (ns : List Nat) : pick (p :: ps) (ns.map (· + 1)) = pick ps ns := by
  unfold pick
  rw [List.filterMap_map]
  rfl
theorem change_edits : ∀ (es : List Gf11.Edit) (before : Position) (old : List Position) (new : List Line), steps es = old.length → Gf11.changeFromEdits before old es new = ⟨hunksOf before old (headApp new (insOf es)), pick old (delOf 0 es)⟩
  | [], before, old, new, h => by
    show (⟨if new.isEmpty = true then [] else [⟨before, old.headD .end_, new⟩], []⟩ : Change) = ⟨(if (new ++ []).isEmpty = true then [] else [⟨before, old.headD .end_, new ++ []⟩]) ++ [], []⟩
    rw [List.append_nil, List.append_nil]
  | .insert l :: es, before, old, new, h => by
    show Gf11.changeFromEdits before old es (new ++ [l]) = ⟨hunksOf before old (headApp new (headAdd l (insOf es))), pick old (delOf 0 es)⟩
    rw [change_edits es before old (new ++ [l]) h]
    congr 2
    cases hh : insOf es with
    | nil =>
      have := insOf_len es
      rw [hh] at this
      simp at this
    | cons g gs =>
      show (new ++ [l] ++ g) :: gs = (new ++ (l :: g)) :: gs
      simp
  | .keep :: es, before, old, new, h => by
    cases old with
    | nil =>
      have h' : steps es + 1 = 0 := h
      omega
    | cons p ps =>
      have h' : steps es + 1 = ps.length + 1 := h
      have ih := change_edits es p ps [] (by omega)
      show (⟨(if new.isEmpty = true then [] else [⟨before, p, new⟩]) ++ (Gf11.changeFromEdits p ps es []).hunks, (Gf11.changeFromEdits p ps es []).deleted⟩ : Change) = ⟨hunksOf before (p :: ps) ((new ++ []) :: insOf es), pick (p :: ps) (delOf 1 es)⟩
      rw [ih, List.append_nil, delOf_shift es 0, pick_shift]
      congr 1
      show _ = (if new.isEmpty = true then [] else [⟨before, p, new⟩]) ++ hunksOf p ps (insOf es)
      congr 2
      cases insOf es <;> rfl
  | .delete :: es, before, old, new, h => by
    cases old with
    | nil =>
      have h' : steps es + 1 = 0 := h
      omega
    | cons p ps =>
      have h' : steps es + 1 = ps.length + 1 := h
      have ih := change_edits es p ps [] (by omega)
      show (⟨(if new.isEmpty = true then [] else [⟨before, p, new⟩]) ++ (Gf11.changeFromEdits p ps es []).hunks, [p] ++ (Gf11.changeFromEdits p ps es []).deleted⟩ : Change) = ⟨hunksOf before (p :: ps) ((new ++ []) :: insOf es), pick (p :: ps) (0 :: delOf 1 es)⟩
      rw [ih, List.append_nil, delOf_shift es 0]
      have e2 : pick (p :: ps) (0 :: (delOf 0 es).map (· + 1)) = [p] ++ pick ps (delOf 0 es) := by
        rw [← pick_shift p ps]
        rfl
      rw [e2]
      congr 1
      show _ = (if new.isEmpty = true then [] else [⟨before, p, new⟩]) ++ hunksOf p ps (insOf es)
      congr 2
      cases insOf es <;> rfl
theorem headApp_nil (es : List Gf11.Edit) : headApp [] (insOf es) = insOf es := by
  cases h : insOf es with
  | nil =>
    have := insOf_len es
    rw [h] at this
    simp at this
  | cons g gs => rfl
/-- the written change: its hunks and its deleted lines, as the program finds them -/
theorem change_between (old : PL) (new : List Line) : Gf11.changeBetween old new = ⟨hunksOf .start (old.map (·.1)) (insOf (df (old.map (·.2)) new)), pick (old.map (·.1)) (delOf 0 (df (old.map (·.2)) new))⟩ := by
  have e : Gf11.diff (old.length + new.length + 1) (old.map fun x => x.2) new = df (old.map (·.2)) new := by
    unfold df
    rw [List.length_map]
  unfold Gf11.changeBetween
  rw [e, change_edits _ _ _ _ (by rw [steps_df _ _ _ (Nat.le_refl _), List.length_map, List.length_map]), headApp_nil]
end Lg

-- ==== Lg3 ====
set_option Elab.async false
set_option linter.all false
/-! Lg3: what holds of every session: bounds, references, ranks; that each operation keeps it. -/
namespace Lg
open Gf11 (Line Position Change Hunk insertNat State)

/-! ### the order of a branch -/
abbrev vis (cs : List Change) (b : List Nat) : List Position := (Gf11.visibleLines cs b).map (·.1)
abbrev bef (cs : List Change) (b : List Nat) : Position → Position → Bool := Gf11.isBefore (Gf11.orderTable (Gf11.edges cs b) (Gf11.visibleLines cs b))
abbrev ordOf (cs : List Change) (b : List Nat) : List Position := (Gf11.content cs b).1.map (·.1)
theorem ord_lin (cs : List Change) (b : List Nat) : ordOf cs b = linOf (bef cs b) (vis cs b).length (vis cs b) := by
  unfold ordOf Gf11.content vis
  rw [List.length_map]
  exact lin_map _ _ _

/-! ### what holds of a change -/
/-- a position's line is there, in a change below n -/
def PosOk (cs : List Change) (n : Nat) : Position → Prop
  | .line p i => p < n ∧ ∃ c, cs[p]? = some c ∧ i < (Gf11.insertedLines c).length
  | _ => True
def IsLine : Position → Prop
  | .line _ _ => True
  | _ => False
def LineOk (l : Line) : Prop := l.length ≤ 12 ∧ ∀ x ∈ l, x ≤ 1000000
structure ChangeOk (cs : List Change) (n : Nat) (c : Change) : Prop where
  few : (Gf11.insertedLines c).length ≤ 8
  hunks : c.hunks.length ≤ 200
  gone : c.deleted.length ≤ 200
  lines : ∀ l ∈ Gf11.insertedLines c, LineOk l
  before : ∀ h ∈ c.hunks, PosOk cs n h.before
  after : ∀ h ∈ c.hunks, PosOk cs n h.after
  dels : ∀ d ∈ c.deleted, PosOk cs n d ∧ IsLine d
theorem PosOk.more {cs : List Change} {n m : Nat} {x : Position} {c : Change} (h : PosOk cs n x) (hm : n ≤ m) : PosOk (cs ++ [c]) m x := by
  cases x with
  | line p i =>
    obtain ⟨h1, c', h2, h3⟩ := h
    refine ⟨by omega, c', ?_, h3⟩
    rw [List.getElem?_append_left (List.getElem?_eq_some_iff.mp h2).1]
    exact h2
  | _ => trivial
theorem ChangeOk.more {cs : List Change} {n : Nat} {c d : Change} (h : ChangeOk cs n c) : ChangeOk (cs ++ [d]) n c :=
  ⟨h.few, h.hunks, h.gone, h.lines, fun x hx => (h.before x hx).more (Nat.le_refl _), fun x hx => (h.after x hx).more (Nat.le_refl _), fun x hx => ⟨(h.dels x hx).1.more (Nat.le_refl _), (h.dels x hx).2⟩⟩

/-! ### ranks -/
structure Ranks (cs : List Change) (r : Position → Nat) : Prop where
  start : r .start = 0
  pos : ∀ p i, 0 < r (.line p i)
  top : ∀ p i, r (.line p i) < r .end_
  rise : ∀ n c, cs[n]? = some c → ∀ e ∈ Gf11.hunkEdges n 0 c.hunks, r e.1 < r e.2
structure Good (s : State) : Prop where
  nb : s.branches.length ≤ 5
  nc : s.changes.length ≤ 12
  up : ∀ b ∈ s.branches, Up b ∧ ∀ x ∈ b, x < s.changes.length
  ok : ∀ n c, s.changes[n]? = some c → ChangeOk s.changes n c
  rank : ∃ r, Ranks s.changes r
theorem good_init : Good Gf11.init where
  nb := by decide
  nc := by decide
  up := by
    intro b hb
    rw [List.mem_singleton.mp hb]
    exact ⟨.nil, fun x hx => nomatch hx⟩
  ok := fun n c h => by cases h
  rank := ⟨fun x => match x with
    | .start => 0
    | .end_ => 2
    | .line _ _ => 1, rfl, fun _ _ => Nat.one_pos, fun _ _ => (by decide : (1 : Nat) < 2), fun n c h => by cases h⟩
theorem Good.deps {s : State} (g : Good s) : DownDeps s := by
  intro p q h
  unfold depsOf Gf13.dependenciesOf at h
  cases hc : s.changes[p]? with
  | none =>
    rw [hc] at h
    cases h
  | some c =>
    rw [hc] at h
    have h : q ∈ Gf11.dependencies c := h
    have ok := g.ok p c hc
    have one : ∀ x : Position, PosOk s.changes p x → q ∈ Gf11.changeOf x → q < p := by
      intro x hx hq
      cases x with
      | line p' i =>
        have e : q = p' := List.mem_singleton.mp hq
        rw [e]
        exact hx.1
      | start => cases hq
      | end_ => cases hq
    rcases mem_deps.mp h with ⟨k, hk, hq | hq⟩ | ⟨d, hd, hq⟩
    · exact one _ (ok.before k hk) hq
    · exact one _ (ok.after k hk) hq
    · exact one _ (ok.dels d hd).1 hq

/-! ### the lines of a branch -/
theorem mem_allLines {cs : List Change} {b : List Nat} {x : Position} {l : Line} : (x, l) ∈ Gf11.allLines cs b ↔ ∃ p ∈ b, ∃ c, cs[p]? = some c ∧ ∃ i, (Gf11.insertedLines c)[i]? = some l ∧ x = .line p i := by
  unfold Gf11.allLines
  rw [List.mem_flatMap]
  constructor
  · rintro ⟨p, hp, h⟩
    cases hc : cs[p]? with
    | none =>
      rw [hc] at h
      cases h
    | some c =>
      rw [hc] at h
      obtain ⟨⟨l', i⟩, hi, e⟩ := List.mem_map.mp h
      obtain ⟨rfl, rfl⟩ := Prod.mk.inj e
      rw [List.mem_zipIdx_iff_getElem?] at hi
      exact ⟨p, hp, c, hc, i, hi, rfl⟩
  · rintro ⟨p, hp, c, hc, i, hi, rfl⟩
    refine ⟨p, hp, ?_⟩
    rw [hc]
    exact List.mem_map.mpr ⟨(l, i), List.mem_zipIdx_iff_getElem?.mpr hi, rfl⟩
/-- positions by change, then by number -/
def plt : Position → Position → Prop
  | .line p i, .line q j => p < q ∨ (p = q ∧ i < j)
  | _, _ => False
theorem plt_ne {x y : Position} (h : plt x y) : x ≠ y := by
  rintro rfl
  cases x with
  | line p i =>
    have h' : p < p ∨ (p = p ∧ i < i) := h
    omega
  | _ => exact h
theorem allLines_plt : ∀ {b : List Nat} (cs : List Change), Up b → (Gf11.allLines cs b).Pairwise fun x y => plt x.1 y.1
  | [], _, _ => .nil
  | p :: b, cs, h => by
    rw [Up, List.pairwise_cons] at h
    have e : Gf11.allLines cs (p :: b) = (match cs[p]? with
      | none => []
      | some c => (Gf11.insertedLines c).zipIdx.map fun x => (Position.line p x.2, x.1)) ++ Gf11.allLines cs b := rfl
    rw [e, List.pairwise_append]
    refine ⟨?_, allLines_plt cs h.2, ?_⟩
    · cases cs[p]? with
      | none => exact .nil
      | some c =>
        show ((Gf11.insertedLines c).zipIdx.map fun x => (Position.line p x.2, x.1)).Pairwise _
        rw [List.pairwise_map, List.pairwise_iff_getElem]
        intro i j hi hj hij
        simp only [List.getElem_zipIdx]
        exact .inr ⟨rfl, by omega⟩
    · rintro ⟨x, l⟩ hx ⟨y, l2⟩ hy
      obtain ⟨q, hq, c2, hc2, j, hj, rfl⟩ := mem_allLines.mp hy
      have : ∃ i, x = .line p i := by
        cases hc : cs[p]? with
        | none =>
          rw [hc] at hx
          cases hx
        | some c =>
          rw [hc] at hx
          obtain ⟨⟨l', i⟩, hi, e⟩ := List.mem_map.mp hx
          exact ⟨i, (Prod.mk.inj e).1.symm⟩
      obtain ⟨i, rfl⟩ := this
      exact .inl (h.1 q hq)
theorem vis_plt {cs : List Change} {b : List Nat} (h : Up b) : (vis cs b).Pairwise plt := by
  unfold vis Gf11.visibleLines
  rw [List.pairwise_map]
  exact (allLines_plt cs h).filter _
theorem vis_nodup {cs : List Change} {b : List Nat} (h : Up b) : (vis cs b).Nodup := (vis_plt h).imp plt_ne
theorem allLines_len {cs : List Change} (hc : ∀ (n : Nat) (c : Change), cs[n]? = some c → (Gf11.insertedLines c).length ≤ 8) : ∀ (b : List Nat), (Gf11.allLines cs b).length ≤ 8 * b.length
  | [] => by simp [Gf11.allLines]
  | p :: b => by
    have ih := allLines_len hc b
    have e : Gf11.allLines cs (p :: b) = (match cs[p]? with
      | none => []
      | some c => (Gf11.insertedLines c).zipIdx.map fun x => (Position.line p x.2, x.1)) ++ Gf11.allLines cs b := rfl
    rw [e, List.length_append, List.length_cons]
    have : (match cs[p]? with
      | none => ([] : List (Position × Line))
      | some c => (Gf11.insertedLines c).zipIdx.map fun (x : Line × Nat) => (Position.line p x.2, x.1)).length ≤ 8 := by
      cases h : cs[p]? with
      | none => simp
      | some c =>
        simp only [List.length_map, List.length_zipIdx]
        exact hc p c h
    omega
theorem Good.bn {s : State} (g : Good s) {b : List Nat} (hb : b ∈ s.branches) : b.length ≤ 12 := Nat.le_trans (up_len0 (g.up b hb).1 (g.up b hb).2) g.nc
theorem Good.vlen {s : State} (g : Good s) {b : List Nat} (hb : b ∈ s.branches) : (Gf11.visibleLines s.changes b).length ≤ 96 := by
  have h1 := allLines_len (cs := s.changes) (fun n c h => (g.ok n c h).few) b
  have h2 := g.bn hb
  have h3 : (Gf11.visibleLines s.changes b).length ≤ (Gf11.allLines s.changes b).length := List.length_filter_le _ _
  omega
theorem mem_visible {cs : List Change} {b : List Nat} {x : Position} {l : Line} (h : (x, l) ∈ Gf11.visibleLines cs b) : ∃ p ∈ b, ∃ c, cs[p]? = some c ∧ ∃ i, (Gf11.insertedLines c)[i]? = some l ∧ x = .line p i :=
  mem_allLines.mp (List.mem_filter.mp h).1
theorem vis_line {cs : List Change} {b : List Nat} {x : Position} (h : x ∈ vis cs b) : ∃ p ∈ b, ∃ c, cs[p]? = some c ∧ ∃ i, i < (Gf11.insertedLines c).length ∧ x = .line p i := by
  obtain ⟨⟨y, l⟩, hy, rfl⟩ := List.mem_map.mp h
  obtain ⟨p, hp, c, hc, i, hi, e⟩ := mem_visible hy
  exact ⟨p, hp, c, hc, i, (List.getElem?_eq_some_iff.mp hi).1, e⟩
theorem mem_edges {cs : List Change} {b : List Nat} {e : Position × Position} (h : e ∈ Gf11.edges cs b) : ∃ p ∈ b, ∃ c, cs[p]? = some c ∧ e ∈ Gf11.hunkEdges p 0 c.hunks := by
  unfold Gf11.edges at h
  obtain ⟨p, hp, h⟩ := List.mem_flatMap.mp h
  cases hc : cs[p]? with
  | none =>
    rw [hc] at h
    cases h
  | some c =>
    rw [hc] at h
    exact ⟨p, hp, c, hc, h⟩
theorem Ranks.edges {cs : List Change} {r : Position → Nat} (k : Ranks cs r) (b : List Nat) : ∀ e ∈ Gf11.edges cs b, r e.1 < r e.2 := fun e he => by
  obtain ⟨p, _, c, hc, h⟩ := mem_edges he
  exact k.rise p c hc e h
theorem Ranks.befR {cs : List Change} {r : Position → Nat} (k : Ranks cs r) (b : List Nat) {x y : Position} (hx : x ∈ vis cs b) (h : bef cs b x y = true) : r x < r y := by
  by_cases e : x = y
  · subst e
    have h2 : bef cs b x x = false := before_self
    rw [h2] at h
    cases h
  · exact Rch.rank (k.edges b) ((before_iff hx e).mp h)
theorem Good.ranks {s : State} (g : Good s) (b : List Nat) : ∃ r : Position → Nat, ∀ x ∈ vis s.changes b, ∀ y ∈ vis s.changes b, bef s.changes b x y = true → r x < r y := by
  obtain ⟨r, k⟩ := g.rank
  exact ⟨r, fun x hx y _ h => k.befR b hx h⟩
theorem Good.ord {s : State} (g : Good s) {b : List Nat} (hb : b ∈ s.branches) : (ordOf s.changes b).Perm (vis s.changes b) ∧ (ordOf s.changes b).Pairwise fun x y => bef s.changes b y x = false := by
  obtain ⟨r, hr⟩ := g.ranks b
  rw [ord_lin]
  exact lin_perm _ rfl (vis_nodup (g.up b hb).1) hr
theorem Good.ordlen {s : State} (g : Good s) {b : List Nat} (hb : b ∈ s.branches) : (ordOf s.changes b).length ≤ 96 := by
  have h1 := (g.ord hb).1.length_eq
  have h2 := g.vlen hb
  rw [h1]
  unfold vis
  rw [List.length_map]
  exact h2
theorem mem_lin {t : Gf11.OrderTable} : ∀ (f : Nat) (l : PL), ∀ x ∈ Gf11.linearize t f l, x ∈ l
  | 0, _, _, h => nomatch h
  | f + 1, l, x, h => by
    unfold Gf11.linearize at h
    cases e : Gf11.firstMinimal t l with
    | none =>
      rw [e] at h
      cases h
    | some y =>
      rw [e] at h
      rcases List.mem_cons.mp h with rfl | h
      · exact List.mem_of_find?_eq_some e
      · exact (List.mem_filter.mp (mem_lin f _ x h)).1
theorem mem_content {cs : List Change} {b : List Nat} {x : Position} {l : Line} (h : (x, l) ∈ (Gf11.content cs b).1) : ∃ p ∈ b, ∃ c, cs[p]? = some c ∧ ∃ i, (Gf11.insertedLines c)[i]? = some l ∧ x = .line p i :=
  mem_visible (mem_lin _ _ _ h)

/-! ### a branch without conflicts rises -/
theorem pairs_mem {A : Type} {R : A → A → Prop} : ∀ {l : List A}, (∀ p ∈ Gf11.pairs l, R p.1 p.2) → l.Pairwise R
  | [], _ => .nil
  | x :: l, h => by
    rw [List.pairwise_cons]
    refine ⟨fun y hy => ?_, pairs_mem fun p hp => ?_⟩
    · exact h (x, y) (List.mem_append_left _ (List.mem_map.mpr ⟨y, hy, rfl⟩))
    · exact h p (List.mem_append_right _ hp)
theorem mem_pairs {A : Type} : ∀ {l : List A} {p : A × A}, p ∈ Gf11.pairs l → p.1 ∈ l ∧ p.2 ∈ l
  | [], _, h => nomatch h
  | x :: l, p, h => by
    rcases List.mem_append.mp (show p ∈ l.map (fun y => (x, y)) ++ Gf11.pairs l from h) with h | h
    · obtain ⟨y, hy, rfl⟩ := List.mem_map.mp h
      exact ⟨List.mem_cons_self, List.mem_cons_of_mem _ hy⟩
    · exact ⟨List.mem_cons_of_mem _ (mem_pairs h).1, List.mem_cons_of_mem _ (mem_pairs h).2⟩
theorem confl_eq (cs : List Change) (b : List Nat) : (Gf11.content cs b).2 = (Gf11.pairs (ordOf cs b)).filter fun x => !(bef cs b x.1 x.2 || bef cs b x.2 x.1) := rfl
theorem Good.rises {s : State} (g : Good s) {b : List Nat} (hb : b ∈ s.branches) (hc : (Gf11.content s.changes b).2 = []) : (ordOf s.changes b).Pairwise fun x y => bef s.changes b x y = true := by
  rw [confl_eq, List.filter_eq_nil_iff] at hc
  have h2 : (ordOf s.changes b).Pairwise fun x y => (bef s.changes b x y || bef s.changes b y x) = true := pairs_mem fun p hp => by
    have := hc p hp
    cases e1 : bef s.changes b p.1 p.2 <;> cases e2 : bef s.changes b p.2 p.1 <;> simp [e1, e2] at this ⊢
  refine (h2.and (g.ord hb).2).imp fun h => ?_
  obtain ⟨h3, h4⟩ := h
  rw [h4, Bool.or_false] at h3
  exact h3

/-! ### a new change's ranks -/
def beforeOf : List Hunk → Nat → Position
  | [], _ => .start
  | h :: hs, k => if k < h.lines.length then h.before else beforeOf hs (k - h.lines.length)
theorem consec_rise {r : Position → Nat} : ∀ {l : List Position}, l.Pairwise (fun a b => r a < r b) → ∀ e ∈ Gf11.consecutive l, r e.1 < r e.2
  | [], _, e, h => nomatch h
  | [a], _, e, h => nomatch h
  | a :: b :: l, hp, e, h => by
    rcases List.mem_cons.mp (show e ∈ (a, b) :: Gf11.consecutive (b :: l) from h) with rfl | h
    · exact (List.pairwise_cons.mp hp).1 b List.mem_cons_self
    · exact consec_rise (List.pairwise_cons.mp hp).2 e h
theorem insertedLen (c : Change) : (Gf11.insertedLines c).length = (c.hunks.map fun h => h.lines.length).sum := by
  unfold Gf11.insertedLines
  rw [List.length_flatMap]
theorem hunkEdges_rise {r' : Position → Nat} {n : Nat} : ∀ (hs : List Hunk) (k : Nat), (∀ h ∈ hs, r' h.before < r' h.after) →
    (∀ (k' : Nat) (h : Hunk) (pre post : List Hunk), hs = pre ++ h :: post → k' = k + (pre.map fun h => h.lines.length).sum → ∀ i, i < h.lines.length → r' h.before < r' (.line n (k' + i)) ∧ r' (.line n (k' + i)) < r' h.after ∧ ∀ j, i < j → j < h.lines.length → r' (.line n (k' + i)) < r' (.line n (k' + j))) →
    ∀ e ∈ Gf11.hunkEdges n k hs, r' e.1 < r' e.2
  | [], _, _, _, e, h => nomatch h
  | hk :: hs, k, hba, hl, e, h => by
    rcases List.mem_append.mp (show e ∈ Gf11.consecutive (hk.before :: ((List.range hk.lines.length).map (fun i => Position.line n (k + i)) ++ [hk.after])) ++ Gf11.hunkEdges n (k + hk.lines.length) hs from h) with h | h
    · refine consec_rise ?_ e h
      have q := hl k hk [] hs rfl (by simp)
      rw [List.pairwise_cons]
      refine ⟨fun y hy => ?_, ?_⟩
      · rcases List.mem_append.mp hy with hy | hy
        · obtain ⟨i, hi, rfl⟩ := List.mem_map.mp hy
          exact (q i (List.mem_range.mp hi)).1
        · rw [List.mem_singleton.mp hy]
          exact hba hk List.mem_cons_self
      · rw [List.pairwise_append]
        refine ⟨?_, by simp, fun a ha b hb => ?_⟩
        · rw [List.pairwise_map, List.pairwise_iff_getElem]
          intro i j hi hj hij
          simp only [List.getElem_range, List.length_range] at hi hj ⊢
          exact (q i hi).2.2 j hij hj
        · obtain ⟨i, hi, rfl⟩ := List.mem_map.mp ha
          rw [List.mem_singleton.mp hb]
          exact (q i (List.mem_range.mp hi)).2.1
    · refine hunkEdges_rise hs (k + hk.lines.length) (fun x hx => hba x (List.mem_cons_of_mem _ hx)) (fun k' x pre post e1 e2 => ?_) e h
      refine hl k' x (hk :: pre) post (by rw [e1]; rfl) ?_
      rw [e2, List.map_cons, List.sum_cons]
      omega
theorem beforeOf_at : ∀ (pre : List Hunk) (h : Hunk) (post : List Hunk) (i : Nat), i < h.lines.length → beforeOf (pre ++ h :: post) ((pre.map fun h => h.lines.length).sum + i) = h.before
  | [], h, post, i, hi => by
    show (if (0 + i) < h.lines.length then h.before else _) = _
    rw [if_pos (by omega)]
  | g :: pre, h, post, i, hi => by
    rw [List.map_cons, List.sum_cons]
    show (if _ < g.lines.length then g.before else beforeOf (pre ++ h :: post) _) = _
    rw [if_neg (by omega)]
    have e : g.lines.length + (pre.map fun h => h.lines.length).sum + i - g.lines.length = (pre.map fun h => h.lines.length).sum + i := by omega
    rw [e]
    exact beforeOf_at pre h post i hi
/-- the ranks behind a new change whose hunks lie between rising positions -/
def rankNew (r : Position → Nat) (n : Nat) (c : Change) : Position → Nat := fun x => match x with
  | .line p i => if p = n then (if i < (Gf11.insertedLines c).length then ((Gf11.insertedLines c).length + 1) * r (beforeOf c.hunks i) + (i + 1) else (Gf11.insertedLines c).length + 1) else ((Gf11.insertedLines c).length + 1) * r (.line p i)
  | y => ((Gf11.insertedLines c).length + 1) * r y
theorem rankNew_old {r : Position → Nat} {cs : List Change} {n : Nat} {c : Change} {x : Position} (h : PosOk cs n x) : rankNew r n c x = ((Gf11.insertedLines c).length + 1) * r x := by
  cases x with
  | line p i =>
    have : ¬ p = n := by
      have := h.1
      omega
    show (if p = n then _ else _) = _
    rw [if_neg this]
  | _ => rfl
theorem posOk_mono {cs : List Change} {n m : Nat} {x : Position} (h : PosOk cs n x) (hm : n ≤ m) : PosOk cs m x := by
  cases x with
  | line p i => exact ⟨Nat.lt_of_lt_of_le h.1 hm, h.2⟩
  | _ => trivial
theorem beforeOf_mem : ∀ (hs : List Hunk) (k : Nat), k < (hs.map fun h => h.lines.length).sum → ∃ h ∈ hs, beforeOf hs k = h.before
  | [], k, h => by simp at h
  | g :: hs, k, h => by
    rw [List.map_cons, List.sum_cons] at h
    by_cases c : k < g.lines.length
    · refine ⟨g, List.mem_cons_self, ?_⟩
      show (if k < g.lines.length then g.before else _) = _
      rw [if_pos c]
    · obtain ⟨x, hx, e⟩ := beforeOf_mem hs (k - g.lines.length) (by omega)
      refine ⟨x, List.mem_cons_of_mem _ hx, ?_⟩
      show (if k < g.lines.length then g.before else _) = _
      rw [if_neg c, e]
theorem mul_lt {K a b k : Nat} (h : a < b) (hk : k < K) : K * a + k < K * b := by
  have h1 : K * (a + 1) ≤ K * b := Nat.mul_le_mul_left K h
  rw [Nat.mul_add] at h1
  omega
/-- the old edges rise still, the new ones rise -/
theorem ranks_new {cs : List Change} {r : Position → Nat} {c : Change} (k : Ranks cs r) (hok : ∀ n c, cs[n]? = some c → ChangeOk cs n c) (hc : ChangeOk cs cs.length c) (hr : ∀ h ∈ c.hunks, r h.before < r h.after) (hb : ∀ h ∈ c.hunks, h.before ≠ .end_) :
    Ranks (cs ++ [c]) (rankNew r cs.length c) := by
  have K1 : 0 < (Gf11.insertedLines c).length + 1 := Nat.succ_pos _
  have e2 : 1 < r .end_ := Nat.lt_of_le_of_lt (k.pos 0 0) (k.top 0 0)
  have bel : ∀ i, i < (Gf11.insertedLines c).length → r (beforeOf c.hunks i) < r .end_ := by
    intro i hi
    rw [insertedLen] at hi
    obtain ⟨h, hh, e⟩ := beforeOf_mem c.hunks i hi
    rw [e]
    cases hbb : h.before with
    | start =>
      rw [k.start]
      omega
    | end_ => exact absurd hbb (hb h hh)
    | line p j => exact k.top p j
  refine ⟨?_, fun p i => ?_, fun p i => ?_, fun n d hn e he => ?_⟩
  · show ((Gf11.insertedLines c).length + 1) * r .start = 0
    rw [k.start]
    omega
  · show 0 < (if p = cs.length then _ else _)
    split
    · split <;> omega
    · exact Nat.mul_pos K1 (k.pos p i)
  · show (if p = cs.length then _ else _) < ((Gf11.insertedLines c).length + 1) * r .end_
    split
    · split
      · rename_i hi
        exact mul_lt (bel i hi) (by omega)
      · have h1 : ((Gf11.insertedLines c).length + 1) * 1 < ((Gf11.insertedLines c).length + 1) * r .end_ := Nat.mul_lt_mul_of_pos_left e2 K1
        omega
    · exact Nat.mul_lt_mul_of_pos_left (k.top p i) K1
  · by_cases c1 : n < cs.length
    · rw [List.getElem?_append_left c1] at hn
      have := k.rise n d hn e he
      have okd := hok n d hn
      -- both ends of an old edge are old
      have ends : ∀ (hs : List Hunk) (m : Nat), (∀ h ∈ hs, PosOk cs n h.before) → (∀ h ∈ hs, PosOk cs n h.after) → m + (hs.map fun h => h.lines.length).sum ≤ (Gf11.insertedLines d).length → ∀ e ∈ Gf11.hunkEdges n m hs, PosOk cs cs.length e.1 ∧ PosOk cs cs.length e.2 := by
        intro hs
        induction hs with
        | nil => intro m _ _ _ e he; cases he
        | cons g hs ih =>
          intro m h1 h2 h3 e he
          rw [List.map_cons, List.sum_cons] at h3
          rcases List.mem_append.mp (show e ∈ Gf11.consecutive (g.before :: ((List.range g.lines.length).map (fun i => Position.line n (m + i)) ++ [g.after])) ++ Gf11.hunkEdges n (m + g.lines.length) hs from he) with he | he
          · have allp : ∀ x ∈ g.before :: ((List.range g.lines.length).map (fun i => Position.line n (m + i)) ++ [g.after]), PosOk cs cs.length x := by
              intro x hx
              rcases List.mem_cons.mp hx with rfl | hx
              · exact posOk_mono (h1 g List.mem_cons_self) (by omega)
              · rcases List.mem_append.mp hx with hx | hx
                · obtain ⟨i, hi, rfl⟩ := List.mem_map.mp hx
                  have := List.mem_range.mp hi
                  exact ⟨c1, d, hn, by omega⟩
                · rw [List.mem_singleton.mp hx]
                  exact posOk_mono (h2 g List.mem_cons_self) (by omega)
            have cm : ∀ (l : List Position) (e : Position × Position), e ∈ Gf11.consecutive l → e.1 ∈ l ∧ e.2 ∈ l := by
              intro l
              induction l with
              | nil => intro e h; cases h
              | cons a l ih2 =>
                intro e h
                cases l with
                | nil => cases h
                | cons b l =>
                  rcases List.mem_cons.mp (show e ∈ (a, b) :: Gf11.consecutive (b :: l) from h) with rfl | h
                  · exact ⟨List.mem_cons_self, List.mem_cons_of_mem _ List.mem_cons_self⟩
                  · exact ⟨List.mem_cons_of_mem _ (ih2 e h).1, List.mem_cons_of_mem _ (ih2 e h).2⟩
            exact ⟨allp _ (cm _ e he).1, allp _ (cm _ e he).2⟩
          · exact ih (m + g.lines.length) (fun x hx => h1 x (List.mem_cons_of_mem _ hx)) (fun x hx => h2 x (List.mem_cons_of_mem _ hx)) (by omega) e he
      obtain ⟨p1, p2⟩ := ends d.hunks 0 okd.before okd.after (by rw [insertedLen]; omega) e he
      rw [rankNew_old p1, rankNew_old p2]
      exact Nat.mul_lt_mul_of_pos_left this K1
    · have hn2 : n = cs.length ∧ d = c := by
        have h1 := (List.getElem?_eq_some_iff.mp hn).1
        rw [List.length_append, List.length_singleton] at h1
        have e : n = cs.length := by omega
        subst e
        rw [List.getElem?_append_right (Nat.le_refl _)] at hn
        simp at hn
        exact ⟨rfl, hn.symm⟩
      obtain ⟨rfl, rfl⟩ := hn2
      refine hunkEdges_rise d.hunks 0 (fun h hh => ?_) (fun k' h pre post e1 ek i hi => ?_) e he
      · rw [rankNew_old (hc.before h hh), rankNew_old (hc.after h hh)]
        exact Nat.mul_lt_mul_of_pos_left (hr h hh) K1
      · have hh : h ∈ d.hunks := by
          rw [e1]
          exact List.mem_append_right _ List.mem_cons_self
        have tot : ∀ j, j < h.lines.length → k' + j < (Gf11.insertedLines d).length := by
          intro j hj
          rw [insertedLen, e1, List.map_append, List.map_cons, List.sum_append, List.sum_cons]
          omega
        have val : ∀ j, j < h.lines.length → rankNew r cs.length d (.line cs.length (k' + j)) = ((Gf11.insertedLines d).length + 1) * r h.before + (k' + j + 1) := by
          intro j hj
          show (if cs.length = cs.length then (if k' + j < _ then _ else _) else _) = _
          rw [if_pos rfl, if_pos (tot j hj)]
          have := beforeOf_at pre h post j hj
          rw [← e1, ← (show k' = (pre.map fun h => h.lines.length).sum by omega)] at this
          rw [this]
        rw [val i hi, rankNew_old (hc.before h hh), rankNew_old (hc.after h hh)]
        have := tot i hi
        refine ⟨by omega, mul_lt (hr h hh) (by omega), fun j hij hj => ?_⟩
        rw [val j hj]
        omega
end Lg

-- ==== LgDict ====
set_option Elab.async false
set_option linter.all false
set_option maxRecDepth 100000
set_option maxHeartbeats 2000000
/-! LgDict: a dict whose keys are tuples of ints, tracked or written by the top; extend by a tuple. -/
namespace Lg
open PySem PySem.Spec PyProof.Rows L2

abbrev KI := List Int
def kk (k : KI) : List Key := k.map Sum.inl
theorem kk_inj : ∀ {a b : KI}, kk a = kk b → a = b
  | [], [], _ => rfl
  | [], _ :: _, h => nomatch h
  | _ :: _, [], h => nomatch h
  | x :: a, y :: b, h => by
    obtain ⟨h1, h2⟩ := List.cons.inj (show Sum.inl x :: kk a = Sum.inl y :: kk b from h)
    rw [Sum.inl.inj h1, kk_inj h2]
theorem kk_v (k : KI) : (kk k).map kV = k.map V.int := by
  unfold kk
  rw [List.map_map]
  rfl
/-- an entry: the key, the tuple that bears it, the value -/
abbrev DE := KI × Addr × V
def dLook (L : List DE) (k : KI) : Option V := (L.find? fun e => decide (e.1 = k)).map (·.2.2)
def dPut (L : List DE) (k : KI) (a : Addr) (v : V) : List DE := if (dLook L k).isSome then L.map (fun e => if e.1 = k then (e.1, e.2.1, v) else e) else L ++ [(k, a, v)]
theorem dLook_nil {k : KI} : dLook [] k = none := rfl
theorem dLook_cons (e : DE) (L : List DE) (k : KI) : dLook (e :: L) k = if e.1 = k then some e.2.2 else dLook L k := by
  unfold dLook
  rw [List.find?_cons]
  by_cases h : e.1 = k
  · simp [h]
  · simp [h]
theorem dLook_map (L : List DE) (k j : KI) (v : V) : dLook (L.map fun e => if e.1 = k then (e.1, e.2.1, v) else e) j = (dLook L j).map fun x => if j = k then v else x := by
  induction L with
  | nil => rfl
  | cons e L ih =>
    rw [List.map_cons, dLook_cons, dLook_cons, ih]
    by_cases h : e.1 = k
    · rw [if_pos h]
      by_cases h2 : e.1 = j
      · have : j = k := h2.symm.trans h
        simp [h2, this]
      · simp [h2]
    · rw [if_neg h]
      by_cases h2 : e.1 = j
      · have : ¬ j = k := fun q => h (h2.trans q)
        simp [h2, this]
      · simp [h2]
theorem dLook_snoc (L : List DE) (k : KI) (a : Addr) (v : V) (j : KI) : dLook (L ++ [(k, a, v)]) j = (dLook L j).or (if k = j then some v else none) := by
  induction L with
  | nil =>
    show dLook [(k, a, v)] j = _
    rw [dLook_cons]
    rfl
  | cons e L ih =>
    rw [List.cons_append, dLook_cons, dLook_cons, ih]
    by_cases h : e.1 = j
    · simp [h]
    · simp [h]
theorem dLook_put (L : List DE) (k j : KI) (a : Addr) (v : V) : dLook (dPut L k a v) j = if j = k then some v else dLook L j := by
  unfold dPut
  by_cases h : (dLook L k).isSome = true
  · rw [if_pos h, dLook_map]
    by_cases e : j = k
    · subst e
      obtain ⟨x, hx⟩ := Option.isSome_iff_exists.mp h
      simp [hx]
    · simp only [if_neg e]
      cases dLook L j <;> rfl
  · rw [if_neg h, dLook_snoc]
    have hn : dLook L k = none := by
      cases q : dLook L k with
      | none => rfl
      | some x =>
        rw [q] at h
        exact absurd rfl h
    by_cases e : j = k
    · subst e
      simp [hn]
    · have e' : ¬ k = j := fun q => e q.symm
      rw [if_neg e', if_neg e]
      cases dLook L j <;> rfl
theorem dPut_len (L : List DE) (k : KI) (a : Addr) (v : V) : (dPut L k a v).length ≤ L.length + 1 := by
  unfold dPut
  split
  · rw [List.length_map]
    omega
  · rw [List.length_append]
    exact Nat.le_refl _
/-- the entries' keys come from before, or are the new one -/
theorem mem_dPut {L : List DE} {k : KI} {a : Addr} {v : V} {e : DE} (h : e ∈ dPut L k a v) : (∃ x, (e.1, e.2.1, x) ∈ L) ∨ (e.1 = k ∧ e.2.1 = a) := by
  unfold dPut at h
  split at h
  · obtain ⟨e0, h0, he⟩ := List.mem_map.mp h
    left
    split at he
    · subst he
      exact ⟨e0.2.2, h0⟩
    · subst he
      exact ⟨e0.2.2, h0⟩
  · rcases List.mem_append.mp h with h | h
    · exact .inl ⟨e.2.2, h⟩
    · have := List.mem_singleton.mp h
      subst this
      exact .inr ⟨rfl, rfl⟩

section
variable (P : Program) (w : World)
abbrev RowsR : List DE → List (List Key × Addr × Value) → Prop := Paired fun p q => kk p.1 = q.1 ∧ p.2.1 = q.2.1 ∧ RelV p.2.2 q.2.2
def DTX (h : Heap) (a : Addr) (L : List DE) : Prop :=
  L.length ≤ sizeLine ∧ (a == sysModules) = false ∧ ∃ xs : List (List Key × Addr × Value), RowsR L xs ∧
    ∃ o es ep, h.get? a = some o ∧ o.ExactDict ∧ o.data = .dict es ep ∧ es.toList = xs.map (entryOfKey (tupleKind (mixKind P w))) ∧ (xs.map (·.1)).Nodup
/-- the dict at a, of the entries L -/
def DTO (a : Addr) (L : List DE) : HO := .ext fun h => DTX P w h a L
end
section
variable {P : Program} {w : World}
theorem dtx_ok {H : Hp} {h : Heap} {a : Addr} {L : List DE} (x : DTX P w h a L) : ObjOk P w H h a (DTO P w a L) := by
  obtain ⟨z, y, xs, r, o, es, ep, e, q⟩ := id x
  refine ⟨x, ⟨o, e⟩, fun h1 h2 p k => ?_⟩
  obtain ⟨z', y', xs', r', o', es', ep', e', q'⟩ := (show DTX P w h1 a L from p)
  exact ⟨z', y', xs', r', o', es', ep', k o' e', q'⟩
theorem RowsR.look {L : List DE} {xs : List (List Key × Addr × Value)} (r : RowsR L xs) (k : KI) : RelO (dLook L k) ((atKey xs (kk k)).map (·.2)) := by
  induction r with
  | nil => exact True.intro
  | @cons p q ps qs h t ih =>
    obtain ⟨h1, _, h2⟩ := h
    rw [dLook_cons]
    by_cases e : p.1 = k
    · have e' : q.1 = kk k := by rw [← h1, e]
      have b : atKey (q :: qs) (kk k) = some q.2 := by simp [atKey, List.find?_cons, e']
      rw [if_pos e, b]
      exact h2
    · have e' : ¬ q.1 = kk k := fun z => e (kk_inj (h1.trans z))
      have b : atKey (q :: qs) (kk k) = atKey qs (kk k) := by simp [atKey, List.find?_cons, e']
      rw [if_neg e, b]
      exact ih
theorem RowsR.repl {L : List DE} {xs : List (List Key × Addr × Value)} (r : RowsR L xs) (k : KI) {y : V} {u : Value} (ry : RelV y u) :
    RowsR (L.map fun e => if e.1 = k then (e.1, e.2.1, y) else e) (xs.map (putAt (kk k) u)) := by
  induction r with
  | nil => exact .nil
  | @cons p q ps qs h t ih =>
    rw [List.map_cons, List.map_cons]
    refine .cons ?_ ih
    obtain ⟨h1, h2, h3⟩ := h
    unfold putAt
    by_cases e : p.1 = k
    · rw [if_pos e, if_pos (by rw [← h1, e])]
      exact ⟨h1, h2, ry⟩
    · rw [if_neg e, if_neg (fun z => e (kk_inj (h1.trans z)))]
      exact ⟨h1, h2, h3⟩
theorem RowsR.put {L : List DE} {xs : List (List Key × Addr × Value)} (r : RowsR L xs) (k : KI) (b : Addr) {y : V} {u : Value} (ry : RelV y u) : RowsR (dPut L k b y) (storedH xs (kk k) b u) := by
  have e : (dLook L k).isSome = (atKey xs (kk k)).isSome := by
    rw [(r.look k).isSome_eq, Option.isSome_map]
  unfold dPut storedH
  rw [e]
  by_cases q : (atKey xs (kk k)).isSome = true
  · rw [if_pos q, if_pos q]
    exact r.repl k ry
  · rw [if_neg q, if_neg q]
    exact Paired.snoc r ⟨rfl, rfl, ry⟩
end
/-- every entry's key stands -/
def KeysOk (K : PySem.W.Frag) (H : Hp) (L : List DE) : Prop := ∀ e ∈ L, SqT K H e.2.1 (e.1.map V.int)
/-- what the dict at a holds at y -/
def XGet (K : PySem.W.Frag) (P : Program) (w : World) (H : Hp) (a : Addr) (y : V) (r : Option V) : Prop :=
  ∃ L k b, H a = some (DTO P w a L) ∧ KeysOk K H L ∧ y = .ref b ∧ SqT K H b (k.map V.int) ∧ r = dLook L k
def XPut (K : PySem.W.Frag) (P : Program) (w : World) (H : Hp) (a : Addr) (y v : V) (H' : Hp) : Prop :=
  ∃ L k b, H a = some (DTO P w a L) ∧ KeysOk K H L ∧ y = .ref b ∧ SqT K H b (k.map V.int) ∧ L.length < sizeLine ∧ H' = upd H a (DTO P w a (dPut L k b v))
section
variable {X : Cx} {pins : List (Addr × Obj)} {σ : L2.St} {H : Hp} {s : Shared} {a : Addr} {y v d : V} {u r : Value} {o : Option V} {A : Around} {E : Value → Shared → Prop}
theorem x_key (I : Inv X pins σ H s) {b : Addr} {k : KI} (h : SqT X.K H b (k.map V.int)) : (tupleKind (mixKind X.prog X.w)).is s.heap (kk k) b := by
  obtain ⟨its, r, ⟨o, ho, hc, n, hd⟩, _⟩ := I.tuple h
  rw [← kk_v] at r
  exact ⟨o, its.toArray, n, ho, hc, hd, by simpa using items_are r⟩
theorem x_rows (I : Inv X pins σ H s) {L : List DE} (e : H a = some (DTO X.prog X.w a L)) (hk : KeysOk X.K H L) : L.length ≤ sizeLine ∧ (a == sysModules) = false ∧
    ∃ xs, RowsR L xs ∧ s.heap.DictOfH (tupleKind (mixKind X.prog X.w)) a xs := by
  obtain ⟨z, y, xs, r, o, es, ep, h1, h2, h3, h4, h5⟩ := (show DTX X.prog X.w s.heap a L from (I.hok a _ e).1)
  refine ⟨z, y, xs, r, o, es, ep, h1, h2, h3, h4, fun x hx => ?_, h5⟩
  have all : ∀ {l : List DE} {m : List (List Key × Addr × Value)}, RowsR l m → (∀ e ∈ l, SqT X.K H e.2.1 (e.1.map V.int)) → ∀ x ∈ m, (tupleKind (mixKind X.prog X.w)).is s.heap x.1 x.2.1 := by
    intro l m q
    induction q with
    | nil => intro _ x hx; exact nomatch hx
    | @cons p q ps qs hq t ih =>
      intro hl x hx
      rcases List.mem_cons.mp hx with e | hx
      · subst e
        rw [← hq.1, ← hq.2.1]
        exact x_key I (hl p List.mem_cons_self)
      · exact ih (fun e he => hl e (List.mem_cons_of_mem _ he)) x hx
  exact all r hk x hx
theorem x_getItem {Q : Value → Shared → Prop} (hu : A.units + 1 < cLine) (I : Inv X pins σ H s) (g : XGet X.K X.prog X.w H a y (some v)) (ry : RelV y u) (h : ∀ w' s', Inv X pins σ H s' → RelV v w' → Q w' s') :
    wpAny (model X.prog X.w) A (getItem (.ref a) u) Q E s := by
  obtain ⟨L, k, b, e, hk, ey, eb, l⟩ := g
  subst ey
  cases (show u = Value.ref b from ry)
  obtain ⟨z, hd, xs, rel, dd⟩ := x_rows I e hk
  obtain ⟨w', hw, rw'⟩ := RelO.some_of (v := v) (o := (atKey xs (kk k)).map (·.2)) (by rw [l]; exact rel.look k)
  obtain ⟨p, hp, hp2⟩ := Option.map_eq_some_iff.mp hw
  refine wpAny_getItem_heap (tupleKind_room_in1 hu) (x_key I eb) dd hp ?_
  rw [hp2]
  exact h w' _ (I.tok _) rw'
theorem x_in {Q : Value → Shared → Prop} (hu : A.units + 1 < cLine) (I : Inv X pins σ H s) (g : XGet X.K X.prog X.w H a y o) (ry : RelV y u) (h : ∀ s', Inv X pins σ H s' → Q (.bool o.isSome) s') :
    wpAny (model X.prog X.w) A (compareOp .In u (.ref a)) Q E s := by
  obtain ⟨L, k, b, e, hk, ey, eb, l⟩ := g
  subst ey
  cases (show u = Value.ref b from ry)
  obtain ⟨z, hd, xs, rel, dd⟩ := x_rows I e hk
  refine wpAny_in_heap (tupleKind_room_in1 hu) (x_key I eb) hd dd ?_
  have q := (rel.look k).isSome_eq
  rw [Option.isSome_map] at q
  rw [← q, ← l]
  exact h _ (I.tok _)
theorem x_notIn {Q : Value → Shared → Prop} (hu : A.units + 1 < cLine) (I : Inv X pins σ H s) (g : XGet X.K X.prog X.w H a y o) (ry : RelV y u) (h : ∀ s', Inv X pins σ H s' → Q (.bool (!o.isSome)) s') :
    wpAny (model X.prog X.w) A (compareOp .NotIn u (.ref a)) Q E s := by
  obtain ⟨L, k, b, e, hk, ey, eb, l⟩ := g
  subst ey
  cases (show u = Value.ref b from ry)
  obtain ⟨z, hd, xs, rel, dd⟩ := x_rows I e hk
  refine wpAny_notIn_heap (tupleKind_room_in1 hu) (x_key I eb) hd dd ?_
  have q := (rel.look k).isSome_eq
  rw [Option.isSome_map] at q
  rw [← q, ← l]
  exact h _ (I.tok _)
theorem x_setItem {H' : Hp} {Q : Unit → Shared → Prop} (hu : A.units + 1 < cLine) (I : Inv X pins σ H s) (g : XPut X.K X.prog X.w H a y v H') (ry : RelV y u) (rv : RelV v r) (h : ∀ s', Inv X pins σ H' s' → Q () s') :
    wpAny (model X.prog X.w) A (setItem (.ref a) u r) Q E s := by
  obtain ⟨L, k, b, e, hk, ey, eb, l, eH⟩ := g
  subst ey eH
  cases (show u = Value.ref b from ry)
  obtain ⟨z, hd, xs, rel, dd⟩ := x_rows I e hk
  have hz : xs.length ≤ sizeLine := by rw [← Paired.length rel]; exact z
  have hl : (dPut L k b v).length ≤ sizeLine := by have := dPut_len L k b v; omega
  refine wpAny_setItem_heap (hsz := hz) (tupleKind_room_in1 hu) (x_key I eb) dd fun h' dd' hs => h _ ?_
  obtain ⟨q, es, ep, hq, h2, h3, h4, _, h5⟩ := dd'
  exact d_write I (by rw [e]; exact True.intro) hs ⟨q, hq⟩ (dtx_ok ⟨hl, hd, _, rel.put k b rv, q, es, ep, hq, h2, h3, h4, h5⟩)
theorem x_isD (I : Inv X pins σ H s) {L : List DE} (e : H a = some (DTO X.prog X.w a L)) :
    s.TypeIs (.ref a) "dict" ∧ (∀ b, Value.ref a = .ref b → ∃ ob, s.heap.get? b = some ob ∧ ob.dict = none) := by
  obtain ⟨z, y, xs, r, o, es, ep, h1, h2, h3, h4, h5⟩ := (show DTX X.prog X.w s.heap a L from (I.hok a _ e).1)
  refine ⟨⟨o, h1, h2.1⟩, fun b q => ?_⟩
  cases q
  exact ⟨o, h1, h2.2.1⟩
theorem x_get2 {Q : Value → Shared → Prop} (hu : A.units + 1 < cLine) (I : Inv X pins σ H s) (g : XGet X.K X.prog X.w H a y o) (ry : RelV y u) (rd : RelV d r) (h : ∀ w' s', Inv X pins σ H s' → RelV (o.getD d) w' → Q w' s') :
    wpAny (model X.prog X.w) A (call (.builtin "dict.get") [.ref a, u, r]) Q E s := by
  obtain ⟨L, k, b, e, hk, ey, eb, l⟩ := g
  subst ey
  cases (show u = Value.ref b from ry)
  obtain ⟨z, hd, xs, rel, dd⟩ := x_rows I e hk
  refine call_meetsIn PySem.F.slot_dict_get dd.typeIs PySem.F.entry_dict_get (PySem.F.args_dict_get_3 _ _ _) (meetsH_dict_get_default (tupleKind (mixKind X.prog X.w)) a b hd r) ⟨tupleKind_room_in1 hu, kk k, xs, x_key I eb, dd, h _ _ (I.tok _) ?_⟩
  rw [l]
  exact (rel.look k).getD rd
end
/-! ### readings and rules -/
def tXNew (P : Program) (w : World) : TE := fun _ H Q => ∀ p, H p = none → Q (.ref p) (upd H p (DTO P w p []))
def tXGet (K : PySem.W.Frag) (P : Program) (w : World) (td ty : TE) : TE := fun σ H Q => td σ H fun x H1 => ty σ H1 fun y H2 => ∃ a v, x = .ref a ∧ XGet K P w H2 a y (some v) ∧ Q v H2
def tXIn (K : PySem.W.Frag) (P : Program) (w : World) (ty td : TE) : TE := fun σ H Q => ty σ H fun y H1 => td σ H1 fun x H2 => ∃ a o, x = .ref a ∧ XGet K P w H2 a y o ∧ Q (.bl o.isSome) H2
def tXNotIn (K : PySem.W.Frag) (P : Program) (w : World) (ty td : TE) : TE := fun σ H Q => ty σ H fun y H1 => td σ H1 fun x H2 => ∃ a o, x = .ref a ∧ XGet K P w H2 a y o ∧ Q (.bl (!o.isSome)) H2
def sXPut (K : PySem.W.Frag) (P : Program) (w : World) (td ty tv : TE) : TS := fun D σ H => tv σ H fun v H1 => td σ H1 fun x H2 => ty σ H2 fun y H3 => ∃ a H4, x = .ref a ∧ XPut K P w H3 a y v H4 ∧ D.nx σ H4
def tXGet2 (K : PySem.W.Frag) (P : Program) (w : World) (td ty tx : TE) : TE := fun σ H Q => td σ H fun x H1 => ∃ a L, x = .ref a ∧ H1 a = some (DTO P w a L) ∧ ty σ H1 fun y H2 => tx σ H2 fun z H3 => ∃ o, XGet K P w H3 a y o ∧ Q (o.getD z) H3
section
variable {X : Cx} {o i e f value : Expr} {pos pos' tpos apos cpos : Pos} {td ty tv tx : TE}
theorem pe_xnew : PE X (.Dict [] [] pos) (tXNew X.prog X.w) := ⟨fun pins s σ H Q I h =>
  wpAny_Dict_empty ⟨.ref s.heap.objs.size, _, I.laid (a := s.heap.objs.size) (o := DTO X.prog X.w s.heap.objs.size []) (t' := s.toks) (fun _ _ q => Heap.get?_push_of_some _ q) (Nat.le_refl _)
    (dtx_ok ⟨Nat.zero_le _, beq_eq_false_iff_ne.mpr (Ne.symm (Nat.ne_of_lt I.big)), [], .nil, _, #[], 0, Heap.get?_push_size _ rfl, ⟨rfl, rfl, rfl⟩, rfl, rfl, List.nodup_nil⟩), rfl, h _ (I.hok.fresh (Nat.le_refl _))⟩⟩
theorem pe_xget (hu : X.A.units + 1 < cLine) (ho : PE X o td) (hi : PE X i ty) (hs : NoSl i) : PE X (.Subscript o i pos) (tXGet X.K X.prog X.w td ty) := by
  refine ⟨fun pins s σ H Q I h => ?_⟩
  refine subD_of PySem.F.slot_dict_getitem.lookup hs (thn (ho.run pins s σ H _ I h) fun u s1 ⟨x, H1, I1, rx, q1⟩ => thn (hi.run pins s1 σ H1 _ I1 q1) fun iv s2 ⟨y, H2, I2, ry, a, v, ex, g, q2⟩ => ?_)
  subst ex
  obtain rfl : u = Value.ref a := rx
  exact ⟨(x_isD I2 g.choose_spec.choose_spec.choose_spec.1).1, x_getItem hu I2 g ry fun w' s3 I3 rw' => ⟨v, H2, I3, rw', q2⟩⟩
theorem pc_xin (hu : X.A.units + 1 < cLine) (hi : PE X i ty) (ho : PE X o td) : PC X .In i o (tXIn X.K X.prog X.w ty td) := by
  refine ⟨fun pins s σ H Q I h => ?_⟩
  refine thn (hi.run pins s σ H _ I h) fun iv s1 ⟨y, H1, I1, ry, q1⟩ => thn (ho.run pins s1 σ H1 _ I1 q1) fun u s2 ⟨x, H2, I2, rx, a, ov, ex, g, q2⟩ => ?_
  subst ex
  obtain rfl : u = Value.ref a := rx
  exact x_in hu I2 g ry fun s3 I3 => ⟨.bl ov.isSome, H2, I3, rfl, q2⟩
theorem pc_xnotin (hu : X.A.units + 1 < cLine) (hi : PE X i ty) (ho : PE X o td) : PC X .NotIn i o (tXNotIn X.K X.prog X.w ty td) := by
  refine ⟨fun pins s σ H Q I h => ?_⟩
  refine thn (hi.run pins s σ H _ I h) fun iv s1 ⟨y, H1, I1, ry, q1⟩ => thn (ho.run pins s1 σ H1 _ I1 q1) fun u s2 ⟨x, H2, I2, rx, a, ov, ex, g, q2⟩ => ?_
  subst ex
  obtain rfl : u = Value.ref a := rx
  exact x_notIn hu I2 g ry fun s3 I3 => ⟨.bl (!ov.isSome), H2, I3, rfl, q2⟩
theorem ps_xput (hu : X.A.units + 1 < cLine) (ho : PE X o td) (hi : PE X i ty) (hv : PE X value tv) (hs : swapsWith value (some (.Subscript o i pos')) pos.line X.env = pure false) :
    PS X (.Assign [.Subscript o i pos'] value pos) (sXPut X.K X.prog X.w td ty tv) := by
  refine ⟨fun pins s σ H D I h => ?_⟩
  refine wpAny_Assign_Subscript (thn (hv.run pins s σ H _ I h) fun r s1 ⟨v, H1, I1, rv, q1⟩ => thn (ho.run pins s1 σ H1 _ I1 q1) fun u s2 ⟨x, H2, I2, rx, q2⟩ => thn (hi.run pins s2 σ H2 _ I2 q2) fun iv s3 ⟨y, H3, I3, ry, a, H4, ex, g, q3⟩ => ?_) hs
  subst ex
  obtain rfl : u = Value.ref a := rx
  exact x_setItem hu I3 g ry rv fun s4 I4 => ⟨σ, H4, I4, q3⟩
theorem pe_xget2 (hu : X.A.units + 1 < cLine) (ho : PE X o td) (he : PE X e ty) (hf : PE X f tx) (m : M2 X o "get" apos e f cpos) : PE X (.Call (.Attribute o "get" apos) [e, f] [] cpos) (tXGet2 X.K X.prog X.w td ty tx) := by
  refine ⟨fun pins s σ H Q I h => ?_⟩
  refine wpAny_Call_method m.base m.few m.line PySem.F.plainAttrs_dict PySem.F.slot_dict_get PySem.F.type_dict_get (thn (ho.run pins s σ H _ I h) fun u s1 ⟨x, H1, I1, rx, a, L, ex, d, q1⟩ => ?_)
  subst ex
  obtain rfl : u = Value.ref a := rx
  obtain ⟨t1, t2⟩ := x_isD I1 d
  refine ⟨t1, t2, ?_⟩
  rw [m.trees]
  refine Calls.callWith_builtin rfl (Calls.evalArgs_plain (Calls.spliced_cons (thn (he.run pins s1 σ H1 _ I1 q1) fun iv s2 ⟨y, H2, I2, ry, q2⟩ => Calls.spliced_cons (thn (hf.run pins s2 σ H2 _ I2 q2) fun zv s3 ⟨z, H3, I3, rz, ov, g, q3⟩ => Calls.spliced_nil ?_))))
  exact x_get2 hu I3 g ry rz fun w' s4 I4 rw' => ⟨_, H3, I4, rw', q3⟩
open PySem.AutoSeq1 in
theorem extend_tup (l : Addr) (items : Array Value) (n : Nat) (b : Addr) (items2 : Array Value) (n2 : Nat) (dd : Option Addr) (sl : Array (Option Value)) (hs0 : ¬(!items.isEmpty && Builtin.List.listTooLong (items.size + items2.size)) = true) (hs1 : items.size ≤ sizeLine) (hs2 : items.size + items2.size ≤ sizeLine + 1) :
    Meets (Builtin.«list.extend» ⟨[.ref l, .ref b], []⟩) (fun _ R s => s.heap.get? l = some { cls := .type "list", dict := none, data := .seq items n, slots := #[] } ∧ s.heap.get? b = some { cls := .type "tuple", dict := dd, data := .seq items2 n2, slots := sl } ∧ R (.ok (.ret Value.none)) { s with heap := s.heap.update l (Obj.mapSeq fun x => x ++ items2), toks := s.toks }) :=
  .of_wp fun prog w A R s h => by
    obtain ⟨hp, g, d, tk, os⟩ := s; obtain ⟨hl, hb, h⟩ := h; have f1 := idx_int; have f2 := AutoSeq1.sub_tuple_tuple; have f3 := AutoSeq1.sub_list_list; have f4 := AutoSeq1.sub_tuple_list; have f5 := AutoSeq1.sub_list_tuple;
    have hz' : (items ++ items2).size ≤ sizeLine + 1 := by rw [Array.size_append]; exact hs2
    wp_walk using (wpAny_updateSeq hl rfl (hz := hs1) (_hz' := hz')), wpAny_loadPart' hl, wpAny_loadPart' hb; exact ⟨_, rfl, h⟩
/-- xs.extend(t), t a tuple -/
def rExtT (K : PySem.W.Frag) : V → List V → Hp → VK → Prop := fun x vs H Q => ∃ l b xs zs, x = .ref l ∧ vs = [.ref b] ∧ H l = some (.lst xs) ∧ SqT K H b zs ∧ xs.length + zs.length ≤ sizeLine ∧ Q .non (upd H l (.lst (xs ++ zs)))
theorem mt_extT : MtM X "list.extend" (rExtT X.K) := by
  intro pins s σ H x vs v us Q I rx rv h
  obtain ⟨l, b, xs, zs, rfl, rfl, hH, hB, hz, q⟩ := h
  cases rx
  obtain ⟨u, rfl, ru⟩ := rv.one
  cases ru
  obtain ⟨z, its, n, r, hl, e⟩ := I.lstM hH
  obtain ⟨its2, r2, ⟨⟨cls, dd, data, sl⟩, e2, hc, n2, hd⟩, hl2⟩ := I.tuple hB
  simp only at hc hd
  subst hc hd
  have hlen2 := r2.length
  have hsz : its.toArray.size + its2.toArray.size ≤ sizeLine := by rw [List.size_toArray, List.size_toArray]; omega
  have hlong : ¬ (!its.toArray.isEmpty && Builtin.List.listTooLong (its.toArray.size + its2.toArray.size)) = true := by
    rw [notLongL hsz, Bool.and_false]
    exact Bool.false_ne_true
  refine call_meets F.slot_list_extend ⟨_, e, rfl⟩ F.entry_list_extend (F.args_list_extend_2 _ _)
    (extend_tup l its.toArray n b its2.toArray n2 dd sl hlong (by rw [List.size_toArray]; omega) (by omega)) ⟨e, e2, ?_⟩
  refine ⟨.non, _, I.lset (its' := its ++ its2) hH e (by simp) (r.append r2) ?_, rfl, q⟩
  rw [List.length_append]
  omega
end
end Lg

-- ==== LgRef ====
set_option Elab.async false
set_option linter.all false
set_option maxRecDepth 100000
set_option maxHeartbeats 2000000
/-! LgRef: the own error Refused over Exception, with its one field told (the block of a worked proof, turned to this class). -/
namespace PySem
namespace LgRx
open PySem PySem.W PySem.Calls PyProof.Rows PySem.HandSPX Builtin Builtin.ObjectAttr
abbrev exTail : List Value := [.type "Exception", .type "BaseException", .type "object"]
section
variable {prog : Program} {w : World} {A : Around} {E : Value → Shared → Prop} {R : Result → Shared → Prop} {hp : Heap} {g : Array GenState} {d : Drawn} {t : Nat} {os : OsState}
theorem exc_osaE {K : W.Frag} {name : Str} {tk : Tok} {v : Value} {x C : Addr} {fv : Array Value} {cd : ClassData}
    (X : K.In hp) (hx : hp.get? x = some { cls := .ref C, data := .fields fv }) (hcd : W.clsIn K C = some cd) (hm : cd.mro = .ref C :: exTail) (hh : cd.hasDict = true) (ha : W.findIn K (.ref C) name = some none)
    (hq : ∀ h' tk' dx, (∀ b o, b ≠ x → hp.get? b = some o → h'.get? b = some o) → hp.objs.size ≤ dx → dx ≠ x → h'.get? x = some { cls := .ref C, dict := some dx, data := .fields fv } →
      h'.Ns1 dx (fun y => if y = name then some v else none) → R (.ok (.ret .none)) ⟨h', g, d, tk', os⟩) :
    codeAny (model prog w) A (.call (.builtin "object.__setattr__") ⟨[.ref x, .str name tk, v], []⟩) R ⟨hp, g, d, t, os⟩ := by
  have I : W.InstAt hp x { cls := .ref C, data := .fields fv } C none := ⟨hx, rfl, rfl, trivial⟩
  have SF := F.store_object
  have ne : cd.mro.isEmpty = false := by rw [hm] <;> rfl
  have hob : cd.mro.contains (.type "object") = true := by rw [hm, List.contains_cons, (by decide +kernel : exTail.contains (Value.type "object") = true), Bool.or_true]
  have hxs : x ≠ hp.objs.size := Nat.ne_of_lt (Heap.lt_size hx)
  have sub : W.Looks (model prog w) hp (isInstance (.ref x) (.type "object")) true := I.type.andThen (W.looks_mroIn X (by unfold W.mroIn; rw [hcd, Option.bind_some, if_neg (by rw [ne]; decide), hob]))
  refine codeAny_call_builtin SF.slot.plain SF.entry (@W.check_slot (model prog w) _ _ ⟨hp, g, d, t, os⟩ "object.__setattr__" "object" "__setattr__" (.ref x) [.str name tk, v] [] _ SF.kind SF.split sub (SF.args (.ref x) (.str name tk) v) ?_)
  have hmr : W.Looks (model prog w) hp (mroOf (.ref C)) cd.mro := (W.looks_clsIn X hcd).andThen .now
  have L3 : W.Looks (model prog w) hp (storeTaker? none) none := .now
  have hcls : W.Looks (model prog w) hp (classData C) cd := W.looks_clsIn X hcd
  rw [W.osa_eq, refuse_eq]
  refine wpAny_bind (wpAny_bind (I.type.at (wpAny_bind (hmr.at ?_))))
  rw [hm, refuseLoop_ref, F.store_Exception.passes (.ref x)]
  refine wpAny_pure (wpAny_bind (I.type.at (wpAny_bind ((W.looks_findIn X ha).at (wpAny_bind (L3.at ?_))))))
  show wpAny _ _ (storeInOwnDict (.ref x) (.ref C) (.str name tk) name v false) _ _ _
  obtain ⟨nm, bs, mro, ns, qn, hd, sn, sb, ab, col, del⟩ := cd
  dsimp only at hh
  subst hh
  unfold storeInOwnDict ownDictForStores
  repeat (first | with_reducible refine store_in_new ?_ ?_ | with_reducible refine wpAny_loadPart_at hx ?_ | with_reducible refine hcls.at ?_ | wp_step)
  · exact ⟨_, #[], _, (Heap.get?_update_ne _ _ _ _ hxs.symm).trans (Heap.get?_push_at rfl rfl), rfl, fun e he => absurd he (by simp), fun _ => rfl⟩
  · intro h' tk' hn' hs
    have hx₁ : (hp.push { cls := .type "dict", data := .dict #[] }).get? x = some { cls := .ref C, data := .fields fv } := Heap.get?_push_of_some _ hx
    refine hq h' tk' hp.objs.size (fun b o hb ho => ?_) (Nat.le_refl _) hxs.symm ?_ hn'
    · exact (hs.2 b (Nat.ne_of_lt (Heap.lt_size ho))).trans ((Heap.get?_update_ne _ _ _ _ hb).trans (Heap.get?_push_of_some _ ho))
    · exact (hs.2 x hxs).trans (Heap.get?_update_self _ hx₁ rfl)
end
end LgRx
end PySem
namespace PySem
namespace LgRx
open PySem.W PySem.Calls PyProof.Rows PySem.HandSPX
/-! ### the text of __init__ -/
def iA (p1 p2 : Pos) : Arguments := { posonlyargs := [], args := [{ arg := "self", annotation := none, pos := p1 }, { arg := "told", annotation := none, pos := p2 }], vararg := none, kwonlyargs := [], kw_defaults := [], kwarg := none, defaults := [] }
def iB (q1 q2 q3 q4 : Pos) : List Stmt := [.Assign [.Attribute (.Name "self" q1) "told" q2] (.Name "told" q3) q4]
def iS : Scope := { kind := .function, names := [(PySem.Str.ofString "self", .local), (PySem.Str.ofString "told", .local)], isGenerator := false, isCoroutine := false, more := [] }
/-- what the written part says of Low, at C, and of its __init__, at fI -/
structure RefTxt (K : Frag) (mg : Str → Option Value) (C fI : Addr) : Prop where
  gC : mg "Refused" = some (.ref C)
  cls : ∃ nm q N bs bm sn sub ab col dd k0 k1 k2 k3 k5, K.lookup C = some (excClassObj nm q C N bs bm true sn sub ab col dd k0 k1 k2 k3 k5 "Exception.__new__") ∧ bm = exTail
  sa : findIn K (.ref C) "__setattr__" = some (some (.builtin "object.__setattr__"))
  ga : findIn K (.ref C) "__getattribute__" = some (some (.builtin "BaseException.__getattribute__"))
  gg : findIn K (.ref C) "__getattr__" = some none
  noN : findIn K (.ref C) "told" = some none
  iC : findIn K (.ref C) "__init__" = some (some (.ref fI))
  tC : typeIn K (.ref fI) = some (.type "function")
  kC : keepIn K (.ref C) = true
  exC : subIn K (.ref C) (.type "BaseException") = some true
  tyC : typeIn K (.ref C) = some (.type "type")
  hdC : hasDictIn K C = true
  te : exmOne K (.ref C) (.ref C) = some true
  fn : ∃ (oc : Value) (od : Option Addr) (doc pm : Value) (an : Option Addr) (cdv ct : Value) (osl : Array (Option Value)) (p1 p2 q1 q2 q3 q4 : Pos),
    K.lookup fI = some ⟨oc, od, .func (fnOf "__init__" "Refused.__init__" (iA p1 p2) (iB q1 q2 q3 q4) iS .none .none doc pm an cdv ct), osl⟩ ∧ codeIn K cdv "Refused.__init__" = true
theorem one_size (v : Value) : [v].length ≤ sizeLine := by
  rw [sizeLine_eq]
  exact (by decide : 1 ≤ 16777216)
theorem kept_but {K : Frag} {h h' : Heap} {x : Addr} (X : K.In h) (hx : K.lookup x = none) (k : ∀ b o, b ≠ x → h.get? b = some o → h'.get? b = some o) : K.In h' := fun a o e =>
  k a o (fun z => by rw [z, hx] at e; cases e) (X a o e)
theorem ldC {M : Model} {s : Shared} {name : Str} {scope : Scope} {L a : Addr} {cd : Value} {m : Str → Option Value} {x : Str} {pos : Pos} {v : Value} {Q : Value → Shared → Prop} {A : Around} {E : Value → Shared → Prop} (hn : s.heap.Ns L m) (hv : m x = some v) (h : Q v s)
    (hk : scope.kind = .function := by rfl) (hl : (envOfC name scope L a cd).kindOf x = some .local := by rfl) (hd : (x == ("__debug__" : Str)) = false := by decide) :
    wpAny M A (eval (.Name x pos) (envOfC name scope L a cd)) Q E s := wpAny_Name (wpAny_loadName_local hk hl hn hv h) hd
/-- what __init__ leaves of a fresh exception at x -/
structure InitEnd (h h' : Heap) (x C dx t1 : Addr) (v : Value) : Prop where
  keep : ∀ b o, b ≠ x → h.get? b = some o → h'.get? b = some o
  obj : h'.get? x = some { cls := .ref C, dict := some dx, data := .fields #[.ref t1, .none, .none, .none, .bool false, .none] }
  dbig : h.objs.size ≤ dx
  dne : dx ≠ x
  ns : h'.Ns1 dx (fun y => if y = "told" then some v else none)
/-- a made Low -/
structure OwnMade (h h' : Heap) (e C d : Addr) (v : Value) : Prop where
  keep : ∀ b o, h.get? b = some o → h'.get? b = some o
  new : h.objs.size ≤ e
  obj : ∃ oe vs, h'.get? e = some oe ∧ oe.cls = .ref C ∧ oe.dict = some d ∧ oe.data = .fields vs ∧ vs[1]? = some .none
  dbig : h.objs.size ≤ d
  dne : d ≠ e
  ns : h'.Ns1 d (fun y => if y = "told" then some v else none)
section
variable {prog : Program} {w : World} {A : Around} {E : Value → Shared → Prop} {R : Result → Shared → Prop} {s : Shared} {K : Frag} {mg : Str → Option Value} {C fI : Addr}
theorem ref_init (T : RefTxt K mg C fI) {x t0 : Addr} {v : Value} (X : K.In s.heap) (hlim : s.heap.NoLimit) (hx : s.heap.get? x = some (excO C t0)) (hnx : K.lookup x = none) (hroom : A.depth < recursionLimit)
    (hq : ∀ h' tk dx, InitEnd s.heap h' x C dx t0 v → R (.ok (.ret .none)) { s with heap := h', toks := tk }) :
    codeAny (model prog w) A (.call (.ref fI) ⟨[.ref x, v], []⟩) R s := by
  obtain ⟨oc, od, doc, pm, an, cdv, ct, osl, p1, p2, q1, q2, q3, q4, ho, hcd⟩ := T.fn
  obtain ⟨nm, q, N, bs, bm, sn, sub, ab, col, dd, k0, k1, k2, k3, k5, hC, hbm⟩ := T.cls
  have hcl : clsIn K C = some { name := nm, bases := bs, mro := .ref C :: bm, ns := N, qualname := q, hasDict := true, slotNames := sn, subclasses := sub, abstract := ab, collection := col, hasDel := false } := by unfold clsIn; rw [hC] <;> rfl
  refine Att.call_fn (binds := [("self", .ref x), ("told", v)]) X hlim ho hcd hroom (BindsTo.of_eq (by first | rfl | with_unfolding_all rfl)) (by first | rfl | decide | with_unfolding_all rfl) (fun s₁ IC => ?_) rfl rfl rfl
  obtain ⟨h₁, tk₁, rfl⟩ := IC.toInCall.same
  have k : ∀ b o, s.heap.get? b = some o → h₁.get? b = some o := IC.toInCall.keep
  have hn := IC.toInCall.ns
  have hxL : s.heap.objs.size ≠ x := Nat.ne_of_gt (Heap.lt_size hx)
  have X₁ : K.In h₁ := X.keeps k
  have hx₁ := k _ _ hx
  -- self.by = by
  show wpAny _ _ (execs _ _) _ _ _
  refine wpAny_execs_cons (plainObj_wpAny_Assign_Attribute ?_)
  refine ldC (v := v) hn (by first | rfl | with_unfolding_all rfl | kernel_rfl) (ldC (v := .ref x) hn (by first | rfl | with_unfolding_all rfl | kernel_rfl) ?_)
  refine set_plain X₁ (ox := excO C t0) (od := none) ⟨hx₁, rfl, rfl, trivial⟩ T.sa ?_
  refine exc_osaE X₁ hx₁ hcl (by rw [hbm]) rfl T.noN (fun h₃ tk₃ dx k₃ dn dne hx₃ hn₃ => ?_)
  show wpAny _ _ (execs _ _) _ _ _
  have z : s.heap.objs.size < h₁.objs.size := hn.lt
  exact wpAny_execs_nil (hq h₃ tk₃ dx ⟨fun b o hb e => k₃ b o hb (k b o e), hx₃, Nat.le_of_lt (Nat.lt_of_lt_of_le z dn), dne, hn₃⟩)
theorem ref_made (T : RefTxt K mg C fI) {v : Value} (X : K.In s.heap) (hlim : s.heap.NoLimit) (hroom : A.depth + 1 < recursionLimit)
    (hq : ∀ h' tk e d, OwnMade s.heap h' e C d v → R (.ok (.ret (.ref e))) { s with heap := h', toks := tk }) :
    codeAny (model prog w) A (.call (.ref C) ⟨[v], []⟩) R s := by
  obtain ⟨nm, q, N, bs, bm, sn, sub, ab, col, dd, k0, k1, k2, k3, k5, hC, hbm⟩ := T.cls
  obtain ⟨hp, g, dr, tk, os⟩ := s
  have k : ∀ b o, hp.get? b = some o → ((hp.push (kdv_tup [v])).push (excO C hp.objs.size)).get? b = some o := fun b o e => Heap.get?_push_of_some _ (Heap.get?_push_of_some _ e)
  have hget : ((hp.push (kdv_tup [v])).push (excO C hp.objs.size)).get? (hp.objs.size + 1) = some (excO C hp.objs.size) := by heap_get
  have hnx : K.lookup (hp.objs.size + 1) = none := by
    cases e : K.lookup (hp.objs.size + 1) with
    | none => rfl
    | some o =>
      have z : hp.get? (hp.objs.size + 1) = some o := X _ _ e
      exact absurd (Nat.lt_of_succ_lt (Heap.lt_size z)) (Nat.lt_irrefl _)
  refine call_own F.excBase_Exception (fun X => by rw [hbm]) (X _ _ hC) (looks_findIn X T.iC) (fun self => bind_fn X self T.tC) (one_size v) ?_
  refine ref_init (s := ⟨(hp.push (kdv_tup [v])).push (excO C hp.objs.size), g, dr, tk, os⟩) T (X.keeps k) (hlim.keeps k) hget hnx ?_ fun h' tk' dx ⟨k', hx, dn, dne, hns⟩ => ?_
  · show A.depth + 1 < recursionLimit
    exact hroom
  · have old : ∀ b o, hp.get? b = some o → h'.get? b = some o := fun b o e => k' b o (Nat.ne_of_lt (Nat.lt_succ_of_lt (Heap.lt_size e))) (k b o e)
    have z : hp.objs.size + 1 + 1 ≤ dx := by
      first
        | (simpa only [Heap.size_push] using dn)
        | exact dn
        | (have q := dn; rw [Heap.size_push, Heap.size_push] at q; exact q)
    exact ⟨rfl, hq h' tk' (hp.objs.size + 1) dx ⟨old, Nat.le_succ _, ⟨_, _, hx, rfl, rfl, rfl, rfl⟩, Nat.le_trans (Nat.le_trans (Nat.le_succ _) (Nat.le_succ _)) z, dne, hns⟩⟩
end
end LgRx
end PySem
namespace L2
open PySem PySem.Spec PyProof.Rows
theorem relO_ref {v : V} {v' : Value} (r : RelV v v') (f : Str) : RelO (List.lookup f [(("told" : Str), v)]) (if f = "told" then some v' else none) := by
  by_cases hw : f = "told"
  · subst hw
    rw [if_pos rfl]
    have q : List.lookup ("told" : Str) [(("told" : Str), v)] = some v := by simp [List.lookup]
    rw [q]
    exact r
  · rw [if_neg hw]
    have qw : (f == ("told" : Str)) = false := by simpa using hw
    have q2 : List.lookup f [(("told" : Str), v)] = none := by simp [List.lookup, qw]
    rw [q2]
    trivial
section
variable {X : Cx} {C fI : Addr}
/-- Low(e) -/
def tMkRef (C : Addr) (ta : TA) : St → Hp → XK → Prop := fun σ H Q => ta σ H fun vs H1 => ∃ v, vs = [v] ∧ ∀ d, H1 d = none → Q (.ref C) (some d) (upd H1 d (.xd [(("told" : Str), v)]))
theorem pmk_ref {a : Expr} {ta : TA} {p pos : Pos} {k : Nat} (T : PySem.LgRx.RefTxt X.K X.mg C fI) (hr : Room k X.A) (ha : PA X [a] ta) (hg : Gl X "Refused" := by rfl)
    (he : starEach (a :: []) X.env = (false, eval a X.env) :: starEach [] X.env := by rfl) (hpl : (backTo pos (starEach [] X.env)).any (·.1) = false := by rfl) :
    PMk X (.Call (.Name "Refused" p) [a] [] pos) (tMkRef C ta) := by
  intro pins s σ H Q I h
  refine wpAny_Call_Name_kw (ld_glob I hg T.gC ?_)
  refine PySem.W.callWith_K (h₀ := X.base) I.ok.mod.kin T.kC (thn (ha.run pos pins s σ H _ I h) fun us s1 hh => ?_) he hpl
  obtain ⟨vs, H1, I1, r1, v, ev, q1⟩ := hh
  subst ev
  refine ⟨I1.kIn, ?_⟩
  cases r1 with
  | cons rv rn =>
    rename_i v' us'
    cases rn
    show wpAny _ _ (call (.ref C) [v']) _ _ _
    have hlim := I1.nolimit
    obtain ⟨hp, g, dr, tk, os⟩ := s1
    refine wpAny_call (PySem.LgRx.ref_made T I1.kIn hlim (by have := hr.dp; omega) fun h' tk' e d M => ?_)
    show MkP X pins σ Q (.ref e) ⟨h', g, dr, tk', os⟩
    obtain ⟨oe, fv, hoe, hc, hd, hdat, h1⟩ := M.obj
    have hns := M.ns
    obtain ⟨G', g1, g2⟩ := restrict h' fun b => decide (b ≠ e)
    have gk : ∀ b, b ≠ e → G'.get? b = h'.get? b := fun b hb => g1 b (decide_eq_true hb)
    have ge : G'.get? e = none := g2 e (by simp)
    have old : ∀ b o, hp.get? b = some o → G'.get? b = some o := fun b o q => (gk b (Nat.ne_of_lt (Nat.lt_of_lt_of_le (Heap.lt_size q) M.new))).trans (M.keep b o q)
    have ob : ObjOk X.prog X.w (upd H1 d (.xd [(("told" : Str), v)])) G' d (.xd [(("told" : Str), v)]) :=
      ⟨_, hns.at (fun o q => (gk d M.dne).trans q), fun f => relO_ref rv f⟩
    have J : Inv X pins σ (upd H1 d (.xd [(("told" : Str), v)])) ⟨G', g, dr, tk', os⟩ := I1.laid (t' := tk') old M.dbig ob
    refine ⟨e, oe, fv, ⟨G', g, dr, tk', os⟩, _, .ref C, some d, rfl, J, fun b o q => ?_, ge, hoe, ⟨hc, hd⟩, hdat, h1, ?_, rfl, I1.bare, raises_own T.exC T.tyC, q1 d (I1.hok.fresh M.dbig)⟩
    · by_cases hb : b = e
      · have q' : G'.get? b = some o := q
        rw [hb, ge] at q'; cases q'
      · exact (gk b hb).symm.trans q
    · rw [upd_ne (Ne.symm M.dne)]
      exact I1.hok.fresh M.new
/-- raise Low(e) -/
def tRaiseRef (C : Addr) (W : WX) (ta : TA) : TS := fun _ σ H => tMkRef C ta σ H fun cls d H' => W cls d σ H'
theorem ps_raiseRef {a : Expr} {ta : TA} {W : WX} {p pos pos2 : Pos} {k : Nat} (hc : X.calm = true) (T : PySem.LgRx.RefTxt X.K X.mg C fI) (hr : Room k X.A) (tk : Takes X W) (ha : PA X [a] ta) (hg : Gl X "Refused" := by rfl)
    (he : starEach (a :: []) X.env = (false, eval a X.env) :: starEach [] X.env := by rfl) (hpl : (backTo pos (starEach [] X.env)).any (·.1) = false := by rfl) :
    PS X (.Raise (some (.Call (.Name "Refused" p) [a] [] pos)) none pos2) (tRaiseRef C W ta) := ps_raise hc tk (pmk_ref T hr ha hg he hpl)
/-- low.by, low the exception that the suite holds (at a; its class cls, its dict d) -/
def tToldRef (C : Addr) (a : Addr) (cls : Value) (d : Option Addr) (te : TE) : TE := fun σ H Q => te σ H fun x H1 => x = .ref a ∧ cls = .ref C ∧ ∃ (dd : Addr) (v : V), d = some dd ∧ H1 dd = some (.xd [(("told" : Str), v)]) ∧ Q v H1
theorem pe_toldRef {a : Addr} {oe : Obj} {cls : Value} {d : Option Addr} {pn : List (Addr × Obj)} {e : Expr} {te : TE} {pos : Pos} (T : PySem.LgRx.RefTxt X.K X.mg C fI) (hz : Zc cls d oe) (hf : ∃ vs, oe.data = .fields vs) (he : PE (X.suite a ((a, oe) :: pn)) e te)
    (hb : attributeBase e "told" X.env (eval e X.env) = eval e X.env := by rfl) :
    PE (X.suite a ((a, oe) :: pn)) (.Attribute e "told" pos) (tToldRef C a cls d te) := by
  refine ⟨fun pins s σ H Q I h => ?_⟩
  refine attr_of hb (thn (he.run pins s σ H _ I h) fun u s1 hh => ?_)
  obtain ⟨x, H1, I1, rx, ex, ec, dd, v, ed, ea, q⟩ := hh
  subst ex
  obtain rfl : u = Value.ref a := rx
  subst ec
  subst ed
  obtain ⟨ha, _⟩ := I1.pin (a, oe) (List.mem_append_left _ List.mem_cons_self)
  obtain ⟨vs, hd⟩ := hf
  have hx : ObjOk X.prog X.w H1 s1.heap dd (.xd [(("told" : Str), v)]) := I1.hok dd _ ea
  obtain ⟨mA, hns, hr⟩ := hx
  obtain ⟨od, ho, hl⟩ := lookIn_ns hns
  have l : List.lookup ("told" : Str) [(("told" : Str), v)] = some v := by simp [List.lookup]
  obtain ⟨u, hu, ru⟩ := RelO.some_of (v := v) (o := mA "told") (by rw [← l]; exact hr "told")
  have J : PySem.W.InstAt s1.heap a oe C (some od) := ⟨ha, hz.1, by unfold PySem.W.notCls; rw [hd] <;> rfl, by rw [hz.2]; exact ho⟩
  exact HandSPX.exc_get I1.kIn J T.ga T.gg T.exC (PySem.W.findObj_own T.hdC T.noN rfl (by rw [hl, hu])) (handed_of ru) ⟨v, H1, I1.tok _, ru, q⟩
end
end L2

-- ==== LgBase ====
set_option Elab.async false
set_option linter.all false
set_option maxRecDepth 100000
set_option maxHeartbeats 2000000
/-! LgBase: names for the rules, the calls of defs by where they stand, the two heaps, what stands for the specification's data. -/
namespace Lg
open PySem PySem.Spec PyProof.Rows L2
open Gf11 (Line Position Change Hunk State)

/-! ### rules by name -/
abbrev rAddI : R2 := rI0 fun i j => .int (i + j)
abbrev rSubI : R2 := rI0 fun i j => .int (i - j)
abbrev rLtI : R2 := rI0 fun i j => .bl (decide (i < j))
abbrev rLeI : R2 := rI0 fun i j => .bl (decide (i ≤ j))
abbrev rGtI : R2 := rI0 fun i j => .bl (decide (j < i))
abbrev rGeI : R2 := rI0 fun i j => .bl (decide (j ≤ i))
abbrev tNeg (t : TE) : TE := tUn (rU fun i => .int (-i)) t
def rLen (K : PySem.W.Frag) : List V → Hp → VK → Prop := fun xs H Q => ∃ p ys, xs = [.ref p] ∧ (SqL K H p ys ∨ SqT K H p ys) ∧ Q (.int ys.length) H
def rListOf (K : PySem.W.Frag) : List V → Hp → VK → Prop := fun xs H Q => ∃ p ys, xs = [.ref p] ∧ (SqL K H p ys ∨ SqT K H p ys) ∧ ∀ l, H l = none → Q (.ref l) (upd H l (.lst ys))
def rTupOf (K : PySem.W.Frag) : List V → Hp → VK → Prop := fun xs H Q => ∃ p ys, xs = [.ref p] ∧ SqL K H p ys ∧ ∀ l, H l = none → Q (.ref l) (upd H l (.tup ys))
def rMaxI : List V → Hp → VK → Prop := fun xs H Q => ∃ i j, xs = [.int i, .int j] ∧ Q (.int (if j > i then j else i)) H
section
variable {X : Cx}
theorem c_len : CallR X (.builtin "len") (rLen X.K) := call_len_seq
theorem c_list : CallR X (.type "list") (rListOf X.K) := call_list_of
theorem c_tuple : CallR X (.type "tuple") (rTupOf X.K) := fun pins s σ H xs us Q I r h => by
  obtain ⟨p, ys, e, h1, h2⟩ := h
  exact call_tuple_of pins s σ H xs us Q I r ⟨p, ys, e, .inl ⟨h1, h2⟩⟩
theorem c_max (hc : X.calm = true) : CallR X (.builtin "max") rMaxI := call_max2 hc
theorem pe_gint {x : Str} {v : Int} {pos : Pos} (hg : Gl X x) (hm : ∃ t, X.mg x = some (.int v t)) (hd : (x == ("__debug__" : Str)) = false := by decide) : PE X (.Name x pos) (tC (.int v)) := by
  obtain ⟨t, e⟩ := hm
  exact pe_glob hg e ⟨t, rfl⟩ hd
end

/-! ### defs by where they stand -/
abbrev gad (K : PySem.W.Frag) (x : Str) : Addr := He.ga K x
abbrev mad (K : PySem.W.Frag) (c m : Str) : Addr := He.ma K (He.ga K c) m
/-- a promise that is kept, its binding, its standing -/
def DOk (P : Program) (w : World) (K : PySem.W.Frag) (mg : Str → Option Value) (base : Heap) (CX : CXT) (k : Nat) (f : Addr) (ps : List Str) (sp : Sp) : Prop :=
  ∃ fd, FnOk P w K mg base CX k f fd ps sp ∧ Binds K fd ps [] ∧ PySem.W.keepIn K (.ref f) = true
section
variable {X : Cx} {CX : CXT} {k : Nat} {f C : Addr} {ps : List Str} {sp : Sp} {E : XK} {e o : Expr} {es : List Expr} {t : TA} {ta : TE} {x m : Str} {p pos apos : Pos}
theorem pe_fcall (G : DOk X.prog X.w X.K X.mg X.base CX k f ps sp) (hr : Room k X.A) (hm : X.mg x = some (.ref f)) (hx : Passes CX X E) (ha : PA X (e :: es) t) (hg : Gl X x := by rfl)
    (hdb : (x == ("__debug__" : Str)) = false := by decide) (he : starEach (e :: es) X.env = (false, eval e X.env) :: starEach es X.env := by rfl) (hpl : (backTo pos (starEach es X.env)).any (·.1) = false := by rfl) :
    PE X (.Call (.Name x p) (e :: es) [] pos) (tCall sp [] E t) := by
  obtain ⟨fd, F, B, kp⟩ := G
  exact pe_call F hr hg hm kp B .nil hx ha hdb he hpl
theorem pe_mcall {pl : Sem Bool} (G : DOk X.prog X.w X.K X.mg X.base CX k f ps sp) (hr : Room k X.A) (c : Cls X.K C) (hm : Meth X.K C m f) (hx : Passes CX X E) (he : PE X o ta) (ha : PA X (e :: es) t)
    (hst : starEach (e :: es) X.env = (false, eval e X.env) :: starEach es X.env := by rfl) (hpl : (backTo pos (starEach es X.env)).any (·.1) = false := by rfl)
    (ht : eval (.Call (.Attribute o m apos) (e :: es) [] pos) X.env = (do
      let ov ← eval o X.env
      standAt apos.atName
      let (f, first) ← holding [ov] (getMethod ov m pl)
      callWith pos f first (backTo pos (starEach (e :: es) X.env)) (backToKw pos (keywordEach [] X.env))) := by rfl) :
    PE X (.Call (.Attribute o m apos) (e :: es) [] pos) (tMeth C m sp [] E ta t) := by
  obtain ⟨fd, F, B, kp⟩ := G
  exact pe_meth he c hm F hr B .nil hx ha hst hpl ht
theorem pe_mcall0 {pl : Sem Bool} (G : DOk X.prog X.w X.K X.mg X.base CX k f ps sp) (hr : Room k X.A) (c : Cls X.K C) (hm : Meth X.K C m f) (hx : Passes CX X E) (he : PE X o ta)
    (ht : eval (.Call (.Attribute o m apos) [] [] pos) X.env = (do
      let ov ← eval o X.env
      standAt apos.atName
      let (f, first) ← holding [ov] (getMethod ov m pl)
      callWith pos f first (backTo pos (starEach [] X.env)) (backToKw pos (keywordEach [] X.env))) := by rfl) :
    PE X (.Call (.Attribute o m apos) [] [] pos) (tMeth C m sp [] E ta tNil) := by
  obtain ⟨fd, F, B, kp⟩ := G
  exact pe_meth0 he c hm F hr B .nil hx ht
theorem pe_mnew (G : DOk X.prog X.w X.K X.mg X.base CX k f ps sp) (M : Mk X.K C f) (hr : Room (k + 1) X.A) (hm : X.mg x = some (.ref C)) (hx : Passes CX X E) (ha : PA X (e :: es) t) (hg : Gl X x := by rfl)
    (hdb : (x == ("__debug__" : Str)) = false := by decide) (he : starEach (e :: es) X.env = (false, eval e X.env) :: starEach es X.env := by rfl) (hpl : (backTo pos (starEach es X.env)).any (·.1) = false := by rfl) :
    PE X (.Call (.Name x p) (e :: es) [] pos) (tMake C sp [] E t) := by
  obtain ⟨fd, F, B, kp⟩ := G
  exact pe_make M F hr hg hm B .nil hx ha hdb he hpl
theorem pe_mnew0 (G : DOk X.prog X.w X.K X.mg X.base CX k f ps sp) (M : Mk X.K C f) (hr : Room (k + 1) X.A) (hm : X.mg x = some (.ref C)) (hx : Passes CX X E) (hg : Gl X x := by rfl)
    (hdb : (x == ("__debug__" : Str)) = false := by decide) : PE X (.Call (.Name x p) [] [] pos) (tMake C sp [] E tNil) := by
  obtain ⟨fd, F, B, kp⟩ := G
  exact pe_make0 M F hr hg hm B .nil hx hdb
end
theorem dok_of {P : Program} {w : World} {K : PySem.W.Frag} {mg : Str → Option Value} {base : Heap} {CX : CXT} {k : Nat} {f : Addr} {ps N : List Str} {sp : Sp} {x qual : Str} {args : Arguments} {body : List Stmt} {sc : Scope}
    (F : ∃ fd, FunD K x qual args body sc [] [] f fd) (S : FnScope N ps sc) (len : ∀ vs H Q E, sp vs H Q E → vs.length = ps.length)
    (hb : ∀ (kV doc pm : Value) (an : Option Addr) (cdv ct : Value) (us : List Value), us.length = ps.length → bindArgs (PySem.W.fnOf x qual args body sc .none kV doc pm an cdv ct) ⟨us, []⟩ = pure (ps.zip us))
    (hbody : ∀ (f' : Addr) (cdv : Value) (A : Around) (outer : List Env) (s : Shared) (H : Hp) (vs : List V) (Q : VK) (E : XK), Room k (A.deeper (envOfC qual sc s.heap.objs.size f' cdv)) → sp vs H Q E →
      ∃ t, PSs (cxOf CX P w K mg base N qual sc f' cdv A outer s H E) body t ∧ t { nx := fun _ H' => Q .non H', rt := Q } (start N vs) H) : DOk P w K mg base CX (k + 1) f ps sp := by
  obtain ⟨fd, F⟩ := F
  exact ⟨fd, F.ok S len (hbody f), F.bindsN hb, F.kp⟩

/-! ### two heaps: B, what stands for ever, within H -/
structure Ext (B H B' H' : Hp) : Prop where
  b : Same B B'
  h : Same H H'
  s : Same B' H'
  f : ∀ a o, H a = some o → B a = none → B' a = none
section
variable {B H B1 H1 B2 H2 : Hp} {p D : Addr} {o u : HO}
theorem Same.new (h : H p = none) : Same H (upd H p o) := fun a u e => by
  rw [upd_ne (ne_of_none e h)]
  exact e
theorem none_back (e : Same H H1) (h : H1 p = none) : H p = none := e.free h
theorem Ext.refl (s : Same B H) : Ext B H B H := ⟨Same.refl B, Same.refl H, s, fun _ _ _ h => h⟩
theorem Ext.trans (x : Ext B H B1 H1) (y : Ext B1 H1 B2 H2) : Ext B H B2 H2 :=
  ⟨x.b.trans y.b, x.h.trans y.h, y.s, fun a o e n => y.f a o (x.h a o e) (x.f a o e n)⟩
/-- a new thing that stands for ever -/
theorem Ext.new (x : Ext B H B1 H1) (h : H1 p = none) : Ext B H (upd B1 p o) (upd H1 p o) := by
  have hb : B1 p = none := x.s.free h
  refine ⟨x.b.trans (Same.new hb), x.h.trans (Same.new h), fun a v e => ?_, fun a v e n => ?_⟩
  · by_cases c : a = p
    · subst c
      rw [upd_same] at e ⊢
      exact e
    · rw [upd_ne c] at e ⊢
      exact x.s a v e
  · rw [upd_ne (ne_of_none (x.h a v e) h)]
    exact x.f a v e n
/-- a new thing that may change -/
theorem Ext.tmp (x : Ext B H B1 H1) (h : H1 p = none) : Ext B H B1 (upd H1 p o) :=
  ⟨x.b, x.h.trans (Same.new h), x.s.trans (Same.new h), x.f⟩
/-- a thing of ours changes -/
theorem Ext.mut (x : Ext B H B1 H1) (h : H D = none) (hb : B1 D = none) : Ext B H B1 (upd H1 D o) := by
  refine ⟨x.b, fun a v e => ?_, fun a v e => ?_, x.f⟩
  · rw [upd_ne (ne_of_none e h)]
    exact x.h a v e
  · rw [upd_ne (ne_of_none e hb)]
    exact x.s a v e
/-- a thing of ours is to stand from now on -/
theorem Ext.keep (x : Ext B H B1 H1) (h : H D = none) (hb : B1 D = none) (e : H1 D = some o) : Ext B H (upd B1 D o) H1 := by
  refine ⟨x.b.trans (Same.new hb), x.h, fun a v q => ?_, fun a v q n => ?_⟩
  · by_cases c : a = D
    · subst c
      rw [upd_same] at q
      rw [← q]
      exact e
    · rw [upd_ne c] at q
      exact x.s a v q
  · rw [upd_ne (ne_of_none q h)]
    exact x.f a v q n
end
/-- what a def hands back: something that R tells, over what stands -/
def Ret (B H : Hp) (Q : VK) (R : Hp → V → Prop) : Prop := ∀ B' H' v, Ext B H B' H' → R B' v → Q v H'

/-! ### lists item by item -/
def All2 {α β : Type} (R : α → β → Prop) (l : List α) (m : List β) : Prop := l.length = m.length ∧ ∀ (i : Nat) a b, l[i]? = some a → m[i]? = some b → R a b
section
variable {α β γ : Type} {R S : α → β → Prop} {l : List α} {m : List β}
theorem All2.nil : All2 R [] [] := ⟨rfl, fun i a b h => by simp at h⟩
theorem All2.cons {a : α} {b : β} (h : R a b) (t : All2 R l m) : All2 R (a :: l) (b :: m) := by
  refine ⟨by rw [List.length_cons, List.length_cons, t.1], fun i x y hx hy => ?_⟩
  cases i with
  | zero =>
    simp at hx hy
    rw [← hx, ← hy]
    exact h
  | succ i =>
    simp at hx hy
    exact t.2 i x y hx hy
theorem All2.mono (h : All2 R l m) (f : ∀ a b, R a b → S a b) : All2 S l m := ⟨h.1, fun i a b x y => f a b (h.2 i a b x y)⟩
theorem All2.get (h : All2 R l m) {i : Nat} {a : α} (e : l[i]? = some a) : ∃ b, m[i]? = some b ∧ R a b := by
  have hi : i < m.length := by
    rw [← h.1]
    exact (List.getElem?_eq_some_iff.mp e).1
  exact ⟨m[i], List.getElem?_eq_getElem hi, h.2 i a _ e (List.getElem?_eq_getElem hi)⟩
theorem All2.get' (h : All2 R l m) {i : Nat} {b : β} (e : m[i]? = some b) : ∃ a, l[i]? = some a ∧ R a b := by
  have hi : i < l.length := by
    rw [h.1]
    exact (List.getElem?_eq_some_iff.mp e).1
  exact ⟨l[i], List.getElem?_eq_getElem hi, h.2 i _ b (List.getElem?_eq_getElem hi) e⟩
theorem All2.snoc {a : α} {b : β} (t : All2 R l m) (h : R a b) : All2 R (l ++ [a]) (m ++ [b]) := by
  refine ⟨by rw [List.length_append, List.length_append, t.1]; rfl, fun i x y hx hy => ?_⟩
  by_cases c : i < l.length
  · rw [List.getElem?_append_left c] at hx
    rw [List.getElem?_append_left (by rw [← t.1]; exact c)] at hy
    exact t.2 i x y hx hy
  · have hl := (List.getElem?_eq_some_iff.mp hx).1
    rw [List.length_append, List.length_singleton] at hl
    have e : i = l.length := by omega
    subst e
    rw [List.getElem?_append_right (Nat.le_refl _)] at hx
    rw [t.1, List.getElem?_append_right (Nat.le_refl _)] at hy
    simp at hx hy
    rw [← hx, ← hy]
    exact h
theorem All2.append {l' : List α} {m' : List β} (t : All2 R l m) (t' : All2 R l' m') : All2 R (l ++ l') (m ++ m') := by
  refine ⟨by rw [List.length_append, List.length_append, t.1, t'.1], fun i x y hx hy => ?_⟩
  by_cases c : i < l.length
  · rw [List.getElem?_append_left c] at hx
    rw [List.getElem?_append_left (by rw [← t.1]; exact c)] at hy
    exact t.2 i x y hx hy
  · rw [List.getElem?_append_right (by omega)] at hx
    rw [List.getElem?_append_right (by rw [← t.1]; omega), ← t.1] at hy
    exact t'.2 _ x y hx hy
theorem All2.map {f : γ → α} {g : γ → β} {l : List γ} (h : ∀ c ∈ l, R (f c) (g c)) : All2 R (l.map f) (l.map g) := by
  refine ⟨by rw [List.length_map, List.length_map], fun i x y hx hy => ?_⟩
  rw [List.getElem?_map] at hx hy
  cases e : l[i]? with
  | none =>
    rw [e] at hx
    cases hx
  | some c =>
    rw [e] at hx hy
    simp at hx hy
    rw [← hx, ← hy]
    exact h c (List.mem_of_getElem? e)
theorem All2.drop (t : All2 R l m) (n : Nat) : All2 R (l.drop n) (m.drop n) := by
  refine ⟨by rw [List.length_drop, List.length_drop, t.1], fun i x y hx hy => ?_⟩
  rw [List.getElem?_drop] at hx hy
  exact t.2 _ x y hx hy
theorem All2.take (t : All2 R l m) (n : Nat) : All2 R (l.take n) (m.take n) := by
  refine ⟨by rw [List.length_take, List.length_take, t.1], fun i x y hx hy => ?_⟩
  rw [List.getElem?_take] at hx hy
  split at hx
  · rename_i c
    rw [if_pos c] at hy
    exact t.2 _ x y hx hy
  · cases hx
theorem All2.mem (t : All2 R l m) {a : α} (h : a ∈ l) : ∃ b ∈ m, R a b := by
  obtain ⟨i, hi⟩ := List.mem_iff_getElem?.mp h
  obtain ⟨b, hb, r⟩ := t.get hi
  exact ⟨b, List.mem_of_getElem? hb, r⟩
end

/-! ### what stands for the specification's data -/
abbrev Rp (α : Type) := Hp → V → α → Prop
def Mono {α : Type} (R : Rp α) : Prop := ∀ B B' v x, Same B B' → R B v x → R B' v x
def IntV : Rp Int := fun _ v x => v = .int x
def NatV : Rp Nat := fun _ v x => v = .int (x : Int)
def LstV {α : Type} (R : Rp α) : Rp (List α) := fun B v xs => ∃ a vs, v = .ref a ∧ B a = some (.lst vs) ∧ All2 (R B) vs xs
theorem mono_nat : Mono NatV := fun _ _ _ _ _ h => h
theorem mono_int : Mono IntV := fun _ _ _ _ _ h => h
theorem mono_lst {α : Type} {R : Rp α} (m : Mono R) : Mono (LstV R) := fun B B' v xs s ⟨a, vs, e, h, t⟩ => ⟨a, vs, e, s a _ h, t.mono fun x y r => m B B' x y s r⟩
theorem sqT_mono {K : PySem.W.Frag} {H H' : Hp} {a : Addr} {xs : List V} (e : Same H H') (h : SqT K H a xs) : SqT K H' a xs := by
  rcases h with (h | ⟨o, h⟩) | h
  · exact .inl (.inl (e _ _ h))
  · exact .inl (.inr ⟨o, e _ _ h⟩)
  · exact .inr h
def posI : Position → List Int
  | .start => [-1, 0]
  | .end_ => [-2, 0]
  | .line p i => [p, i]
theorem posI_inj {x y : Position} (h : posI x = posI y) : x = y := by
  cases x <;> cases y <;> simp [posI] at h ⊢ <;> omega
def lineI (l : Line) : List Int := l.map fun (n : Nat) => (n : Int)
theorem lineI_inj : ∀ {a b : Line}, lineI a = lineI b → a = b
  | [], [], _ => rfl
  | [], _ :: _, h => nomatch h
  | _ :: _, [], h => nomatch h
  | x :: a, y :: b, h => by
    obtain ⟨h1, h2⟩ := List.cons.inj (show (x : Int) :: lineI a = (y : Int) :: lineI b from h)
    rw [show x = y by omega, lineI_inj h2]
section
variable (K : PySem.W.Frag)
/-- a tuple of ints -/
def TupV : Rp (List Int) := fun B v ns => ∃ a, v = .ref a ∧ SqT K B a (ns.map V.int)
def PosV : Rp Position := fun B v x => TupV K B v (posI x)
def LineV : Rp Line := fun B v l => TupV K B v (lineI l)
def HunkV : Rp Hunk := fun B v h => ∃ a x y z, v = .ref a ∧ SqT K B a [x, y, z] ∧ PosV K B x h.before ∧ LstV (LineV K) B y h.lines ∧ PosV K B z h.after
/-- a change and its number -/
def ChangeV : Rp (Nat × Change) := fun B v c => ∃ a dx hs ds ls, v = .ref a ∧ B a = some (.ins (gad K "Change") dx [("number", .int (c.1 : Int)), ("hunks", hs), ("deleted", ds), ("lines", ls)]) ∧
  LstV (HunkV K) B hs c.2.hunks ∧ LstV (PosV K) B ds c.2.deleted ∧ LstV (LineV K) B ls (Gf11.insertedLines c.2)
end
section
variable {K : PySem.W.Frag}
theorem mono_tup : Mono (TupV K) := fun _ _ _ _ s ⟨a, e, h⟩ => ⟨a, e, sqT_mono s h⟩
theorem mono_pos : Mono (PosV K) := fun _ _ _ _ s h => mono_tup _ _ _ _ s h
theorem mono_line : Mono (LineV K) := fun _ _ _ _ s h => mono_tup _ _ _ _ s h
theorem mono_hunk : Mono (HunkV K) := fun _ _ _ _ s ⟨a, x, y, z, e, h, p, l, q⟩ => ⟨a, x, y, z, e, sqT_mono s h, mono_pos _ _ _ _ s p, mono_lst mono_line _ _ _ _ s l, mono_pos _ _ _ _ s q⟩
theorem mono_change : Mono (ChangeV K) := fun _ _ _ _ s ⟨a, dx, hs, ds, ls, e, h, p, q, r⟩ =>
  ⟨a, dx, hs, ds, ls, e, s _ _ h, mono_lst mono_hunk _ _ _ _ s p, mono_lst mono_pos _ _ _ _ s q, mono_lst mono_line _ _ _ _ s r⟩
end
end Lg

-- ==== LgTab ====
set_option Elab.async false
set_option linter.all false
set_option maxRecDepth 100000
set_option maxHeartbeats 4000000
/-! LgTab: tables of up to 512 slots. -/
namespace Lg
open PySem PySem.Spec PyProof.Rows L2
/-! ### the round of 512 -/
def MaskG (m : Nat) : Prop := MaskOk m ∨ m = 511
theorem maskG_odd {m : Nat} (h : MaskG m) : m % 2 = 1 := by
  rcases h with h | rfl
  · exact mask_odd h
  · rfl
theorem maskG_le {m : Nat} (h : MaskG m) : m ≤ 511 := by
  rcases h with (h | h | h) | h <;> omega
def hits (m j : Nat) : Nat → Nat → Bool
  | 0, x => Nat.beq x j
  | f + 1, x => Nat.beq x j || hits m j f ((x * 5 + 1) % (m + 1))
theorem lcgI_shift (m x : Nat) : ∀ k, lcgI m ((x * 5 + 1) % (m + 1)) k = lcgI m x (k + 1)
  | 0 => rfl
  | k + 1 => by
    show (lcgI m ((x * 5 + 1) % (m + 1)) k * 5 + 1) % (m + 1) = (lcgI m x (k + 1) * 5 + 1) % (m + 1)
    rw [lcgI_shift m x k]
theorem hits_ok {m j : Nat} : ∀ (f x : Nat), hits m j f x = true → ∃ k, k ≤ f ∧ lcgI m x k = j
  | 0, x, h => ⟨0, Nat.le_refl _, Nat.eq_of_beq_eq_true h⟩
  | f + 1, x, h => by
    rcases Bool.or_eq_true_iff.mp (show (Nat.beq x j || hits m j f ((x * 5 + 1) % (m + 1))) = true from h) with h | h
    · exact ⟨0, Nat.zero_le _, Nat.eq_of_beq_eq_true h⟩
    · obtain ⟨k, hk, e⟩ := hits_ok f _ h
      exact ⟨k + 1, Nat.succ_le_succ hk, by rw [← lcgI_shift]; exact e⟩
theorem lcgN_I (m : Nat) : ∀ k, lcgN m k = lcgI m 0 k
  | 0 => rfl
  | k + 1 => by
    show (lcgN m k * 5 + 1) % (m + 1) = (lcgI m 0 k * 5 + 1) % (m + 1)
    rw [lcgN_I m k]
theorem all511 : ((List.range 512).all fun j => hits 511 j 511 0) = true := by decide +kernel
theorem round511 : lcgN 511 512 = 0 := by decide +kernel
theorem wrap511 : ∀ k, lcgN 511 (512 + k) = lcgN 511 k
  | 0 => round511
  | k + 1 => by
    show (lcgN 511 (512 + k) * 5 + 1) % 512 = (lcgN 511 k * 5 + 1) % 512
    rw [wrap511 k]
theorem at511 {j : Nat} (hj : j ≤ 511) : ∃ b, b ≤ 511 ∧ lcgN 511 b = j := by
  obtain ⟨b, hb, e⟩ := hits_ok 511 0 (List.all_eq_true.mp all511 j (List.mem_range.mpr (Nat.lt_succ_of_le hj)))
  exact ⟨b, hb, by rw [lcgN_I]; exact e⟩
theorem runG {m : Nat} (hm : MaskG m) (h : Int) {j : Nat} (hj : j ≤ m) : ∃ n, n ≤ m + 12 ∧ runI m (SetTable.bits h) n = j := by
  rcases hm with hm | rfl
  · exact run_meets hm h hj
  · obtain ⟨a, ha, ea⟩ := at511 (runI_le 511 (SetTable.bits h) 12)
    obtain ⟨b, hb, eb⟩ := at511 hj
    have go : ∀ k, lcgN 511 (a + k) = j → runI 511 (SetTable.bits h) (12 + k) = j := fun k hk => by
      rw [runI_tail (bits_lt h), ← ea, lcgN_add]
      exact hk
    rcases Nat.lt_or_ge b a with c | c
    · refine ⟨12 + (512 + b - a), by omega, go _ ?_⟩
      rw [show a + (512 + b - a) = 512 + b by omega, wrap511, eb]
    · refine ⟨12 + (b - a), by omega, go _ ?_⟩
      rw [show a + (b - a) = b by omega, eb]
theorem wayLe (m : Nat) (h : Int) (k : Nat) : way m h k ≤ m := by
  have hi : SetTable.bits h % (m + 1) ≤ m := Nat.le_of_lt_succ (Nat.mod_lt _ (Nat.succ_pos _))
  have r := runEnd_bd hi
  have q := nth_in (m := m) k (runAt m (SetTable.bits h % (m + 1)) (SetTable.bits h)) (by
    show SetTable.bits h % (m + 1) + (SetTable.runEnd m (SetTable.bits h % (m + 1)) - SetTable.bits h % (m + 1)) ≤ m
    omega)
  exact Nat.le_trans (Nat.le_add_right _ _) q
/-- the first step of the way at which something holds that holds at a slot -/
theorem way_first {m : Nat} (hm : MaskG m) (h : Int) {p : Nat → Prop} {j : Nat} (hj : j ≤ m) (hp : p j) : ∃ K n, n ≤ m + 12 ∧ K ≤ off m (SetTable.bits h % (m + 1)) (SetTable.bits h) n ∧ K < 10 * SetTable.turns m ∧ p (way m h K) ∧ ∀ k, k < K → ¬ p (way m h k) := by
  obtain ⟨n, hn, e⟩ := runG hm h hj
  have hw : way m h (off m (SetTable.bits h % (m + 1)) (SetTable.bits h) n) = j := by
    show (nth m (runAt m (SetTable.bits h % (m + 1)) (SetTable.bits h)) (off m (SetTable.bits h % (m + 1)) (SetTable.bits h) n)).j = j
    rw [nth_off, itL_run]
    exact e
  obtain ⟨k0, hk0, e0⟩ := run_nth m (SetTable.bits h) n
  have hw0 : way m h k0 = j := by
    show (nth m (runAt m (SetTable.bits h % (m + 1)) (SetTable.bits h)) k0).j = j
    rw [e0]
    exact e
  obtain ⟨K, h1, h2, h3⟩ := st_least (p := fun k => p (way m h k)) k0 (by rw [hw0]; exact hp)
  refine ⟨K, n, hn, ?_, by unfold SetTable.turns; omega, h2, h3⟩
  exact Nat.le_of_not_lt fun c => h3 _ c (by rw [hw]; exact hp)

/-! ### the table's word -/
structure TabG (t : SetTable) (hs : List Int) : Prop where
  ris : Ris t.place.toList
  dm : t.dummies = #[]
  sz : t.place.toList.length = hs.length
  msk : MaskG t.mask
  bd : ∀ x ∈ t.place.toList, x ≤ t.mask
  reach : ∀ (i : Nat) (h : Int) (j : Nat), hs[i]? = some h → t.place.toList[i]? = some j → ∃ k, way t.mask h k = j ∧ ∀ k', k' < k → way t.mask h k' ∈ t.place.toList
theorem TabG.first {t : SetTable} {hs : List Int} (T : TabG t hs) (hl : hs.length ≤ t.mask) (h : Int) : ∃ K, K < 10 * SetTable.turns t.mask ∧ way t.mask h K ∉ t.place.toList ∧ ∀ k, k < K → way t.mask h k ∈ t.place.toList := by
  obtain ⟨j, hj, hn⟩ := st_missing t.place.toList (t.mask + 1) (by rw [T.sz]; omega)
  obtain ⟨K, _, _, _, h1, h2, h3⟩ := way_first T.msk h (p := fun x => x ∉ t.place.toList) (Nat.le_of_lt_succ hj) hn
  exact ⟨K, h1, h2, fun k hk => Classical.byContradiction fun c => h3 k hk c⟩
theorem TabG.put {t : SetTable} {hs : List Int} (T : TabG t hs) {h : Int} {K p : Nat} (hK : way t.mask h K ∉ t.place.toList) (hb : ∀ k, k < K → way t.mask h k ∈ t.place.toList) (hp : p = SetTable.below t.place (way t.mask h K)) :
    p ≤ hs.length ∧ TabG (t.put (way t.mask h K)).1 (hs.take p ++ h :: hs.drop p) := by
  have cut := (below_cut T.ris (way t.mask h K)).1
  rw [← hp, ← Array.length_toList] at cut
  have hph : p ≤ hs.length := by
    rw [← T.sz]
    exact cut
  have pl : (t.put (way t.mask h K)).1.place.toList = t.place.toList.take p ++ way t.mask h K :: t.place.toList.drop p := by
    rw [put_place, hp]
  have more : ∀ {x : Nat}, x ∈ t.place.toList → x ∈ (t.put (way t.mask h K)).1.place.toList := fun hx => by
    rw [pl]
    exact L2.mem_ins.2 (.inr hx)
  refine ⟨hph, ris_insert T.ris fun e => hK (List.mem_of_getElem? (by rw [Array.getElem?_toList]; exact e)), put_dm T.dm _, ?_, T.msk, fun x hx => ?_, fun i h' j' e1 e2 => ?_⟩
  · rw [pl, len_ins _ cut, len_ins _ hph, T.sz]
  · rw [pl] at hx
    rcases L2.mem_ins.1 hx with rfl | hx
    · exact wayLe _ _ _
    · exact T.bd x hx
  · rw [tins_get hs hph] at e1
    rw [pl, tins_get _ cut] at e2
    have old : ∀ i', hs[i']? = some h' → t.place.toList[i']? = some j' → ∃ k, way t.mask h' k = j' ∧ ∀ k', k' < k → way t.mask h' k' ∈ (t.put (way t.mask h K)).1.place.toList := fun i' a b => by
      obtain ⟨k, q1, q2⟩ := T.reach i' h' j' a b
      exact ⟨k, q1, fun k' hk => more (q2 k' hk)⟩
    by_cases c : i < p
    · rw [if_pos c] at e1 e2
      exact old i e1 e2
    · by_cases d : i = p
      · rw [if_neg c, if_pos d] at e1 e2
        obtain rfl := Option.some.inj e1
        exact ⟨K, Option.some.inj e2, fun k' hk => more (hb k' hk)⟩
      · rw [if_neg c, if_neg d] at e1 e2
        exact old (i - 1) e1 e2

/-! ### laid anew -/
theorem own_more {m : Nat} (hm : MaskG m) {done : List Int} {owner : Array (Option Nat)} (W : Own m done owner) (hl : done.length ≤ m) (h : Int) :
    ∃ j, SetTable.layClean.free m owner (SetTable.turns m) (SetTable.bits h % (m + 1)) (SetTable.bits h) = some j ∧ Own m (done ++ [h]) (owner.setIfInBounds j (some done.length)) := by
  obtain ⟨ps, hps, hin⟩ := W.ps
  obtain ⟨j0, h0, hn0⟩ := st_missing ps (m + 1) (by omega)
  have hj0 : oAt owner j0 = none := Classical.byContradiction fun c => hn0 (hin j0 (Nat.le_of_lt_succ h0) c)
  obtain ⟨K, n, hn, kn, _, k2, k3⟩ := way_first hm h (p := fun x => oAt owner x = none) (Nat.le_of_lt_succ h0) hj0
  have e1 : SetTable.layClean.free m owner (SetTable.turns m) (SetTable.bits h % (m + 1)) (SetTable.bits h) = some (way m h K) := by
    refine free_spec m owner (SetTable.turns m) n _ _ K (by unfold SetTable.turns; omega) kn (fun k hk => ?_) ?_
    · have q := k3 k hk
      cases z : oAt owner (nth m (runAt m (SetTable.bits h % (m + 1)) (SetTable.bits h)) k).j with
      | none => exact absurd z q
      | some _ => rfl
    · rw [show oAt owner (nth m (runAt m (SetTable.bits h % (m + 1)) (SetTable.bits h)) K).j = none from k2]
      rfl
  have hjm := wayLe m h K
  have self := oAt_set_self (some done.length) (show way m h K < owner.size by rw [W.sz]; omega)
  have busy : ∀ {i : Nat}, oAt owner i ≠ none → oAt (owner.setIfInBounds (way m h K) (some done.length)) i ≠ none := fun {i} hi => by
    by_cases c : i = way m h K
    · rw [c, self]
      exact fun e => nomatch e
    · rw [oAt_set_ne _ c]
      exact hi
  refine ⟨way m h K, e1, by rw [Array.size_setIfInBounds]; exact W.sz, fun j k hj e => ?_, fun k hk => ?_, way m h K :: ps, by rw [List.length_cons, List.length_append, hps]; rfl, fun j hj e => ?_⟩
  · by_cases c : j = way m h K
    · rw [c, self] at e
      obtain rfl := Option.some.inj e
      exact ⟨h, K, by rw [List.getElem?_append_right (Nat.le_refl _), Nat.sub_self]; rfl, c.symm, fun k' hk => busy (k3 k' hk)⟩
    · rw [oAt_set_ne _ c] at e
      obtain ⟨h', K', a1, a2, a3⟩ := W.at_ j k hj e
      exact ⟨h', K', by rw [List.getElem?_append_left (List.getElem?_eq_some_iff.mp a1).1]; exact a1, a2, fun k' hk => busy (a3 k' hk)⟩
  · rw [List.length_append, List.length_singleton] at hk
    by_cases c : k < done.length
    · obtain ⟨j, hj, e⟩ := W.all k c
      refine ⟨j, hj, ?_⟩
      rw [oAt_set_ne _ (fun z => by rw [z, k2] at e; cases e)]
      exact e
    · rw [show k = done.length by omega]
      exact ⟨_, hjm, self⟩
  · by_cases c : j = way m h K
    · rw [c]
      exact List.mem_cons_self
    · rw [oAt_set_ne _ c] at e
      exact List.mem_cons_of_mem _ (hin j hj e)
theorem own_all {m : Nat} (hm : MaskG m) : ∀ (rest done : List Int) (owner : Array (Option Nat)), Own m done owner → done.length + rest.length ≤ m → ∃ owner', (rest.foldl (stepF m) (some (owner, done.length))).map (·.1) = some owner' ∧ Own m (done ++ rest) owner'
  | [], done, owner, W, _ => ⟨owner, rfl, by rw [List.append_nil]; exact W⟩
  | h :: rest, done, owner, W, hl => by
    rw [List.length_cons] at hl
    obtain ⟨j, e, W'⟩ := own_more hm W (by omega) h
    have hl' : (done ++ [h]).length = done.length + 1 := by rw [List.length_append]; rfl
    obtain ⟨owner', f, W2⟩ := own_all hm rest (done ++ [h]) _ W' (by rw [hl']; omega)
    rw [List.append_assoc] at W2
    refine ⟨owner', ?_, W2⟩
    rw [List.foldl_cons, stepF_some e, ← hl']
    exact f
theorem tab_anew (t : SetTable) {hs : Array Int} {wanted M : Nat} (hw : SetTable.sizeAbove wanted - 1 = M) (hM : MaskG M) (hn : hs.size ≤ M) :
    ∃ t' order, t.relaid hs wanted = some (t', order) ∧ order.toList.Perm (List.range hs.size) ∧ TabG t' (order.toList.map fun i => hs.getD i 0) ∧ t'.mask = M ∧ t'.led = t.led ∧ t'.plain = t.plain := by
  obtain ⟨owner, f, W⟩ := own_all hM hs.toList [] _ (Own.init M) (by rw [Array.length_toList]; show 0 + hs.size ≤ M; omega)
  rw [List.nil_append] at W
  have hr : t.relaid hs wanted = some (tabOf t M owner, ((liveOf M owner).map (·.2)).toArray) := by
    rw [relaid_eq, hw, layClean_eq, show hs.toList.foldl (stepF M) (some (Array.replicate (M + 1) none, 0)) = hs.toList.foldl (stepF M) (some (Array.replicate (M + 1) none, ([] : List Int).length)) from rfl, f]
    rfl
  have ris := ris_live (fun j => owner.getD j none) (List.range (M + 1)) List.pairwise_lt_range
  have r1 : Ris ((liveOf M owner).map (·.1)) := ris.1
  have nd : ((liveOf M owner).map (·.1)).Nodup := r1.imp fun h => Nat.ne_of_lt h
  have le1 : (liveOf M owner).length ≤ hs.size := by
    obtain ⟨ps, p1, p2⟩ := W.ps
    have a := nat_nodup_len ((liveOf M owner).map (·.1)) ps nd fun x hx => by
      obtain ⟨⟨y, k⟩, hq, rfl⟩ := List.mem_map.mp hx
      obtain ⟨b1, b2⟩ := (mem_live W.sz).1 hq
      exact p2 y b1 (by rw [b2]; exact fun z => nomatch z)
    rw [List.length_map, p1, Array.length_toList] at a
    exact a
  have has : ∀ k, k < hs.size → k ∈ (liveOf M owner).map (·.2) := fun k hk => by
    obtain ⟨j, b1, b2⟩ := W.all k (by rw [Array.length_toList]; exact hk)
    exact List.mem_map.mpr ⟨(j, k), (mem_live W.sz).2 ⟨b1, b2⟩, rfl⟩
  have le2 : hs.size ≤ (liveOf M owner).length := by
    have b := nat_nodup_len (List.range hs.size) ((liveOf M owner).map (·.2)) List.nodup_range fun k hk => has k (List.mem_range.mp hk)
    rw [List.length_range, List.length_map] at b
    exact b
  refine ⟨_, _, hr, perm_range hs.size _ (by show ((liveOf M owner).map (·.2)).length = _; rw [List.length_map]; omega) has, ⟨r1, rfl, ?_, hM, fun x hx => Nat.le_of_lt_succ (List.mem_range.mp (ris.2 x hx)), fun i h j e1 e2 => ?_⟩, rfl, rfl, rfl⟩
  · show ((liveOf M owner).map (·.1)).length = (((liveOf M owner).map (·.2)).map fun i => hs.getD i 0).length
    rw [List.length_map, List.length_map, List.length_map]
  · have e1 : (((liveOf M owner).map (·.2)).map fun i => hs.getD i 0)[i]? = some h := e1
    have e2 : ((liveOf M owner).map (·.1))[i]? = some j := e2
    rw [List.getElem?_map, List.getElem?_map] at e1
    rw [List.getElem?_map] at e2
    cases hq : (liveOf M owner)[i]? with
    | none =>
      rw [hq] at e2
      cases e2
    | some q =>
      obtain ⟨y, k⟩ := q
      rw [hq] at e1 e2
      obtain rfl : y = j := Option.some.inj e2
      have eh : hs.getD k 0 = h := Option.some.inj e1
      obtain ⟨b1, b2⟩ := (mem_live W.sz).1 (List.mem_of_getElem? hq)
      obtain ⟨h0, K, a1, a2, a3⟩ := W.at_ y k b1 b2
      have e0 : hs.getD k 0 = h0 := by
        rw [Array.getD_eq_getD_getElem?, ← Array.getElem?_toList, a1]
        rfl
      obtain rfl : h0 = h := e0.symm.trans eh
      refine ⟨K, a2, fun k' hk => ?_⟩
      show way M h0 k' ∈ (liveOf M owner).map (·.1)
      cases z : oAt owner (way M h0 k') with
      | none => exact absurd z (a3 k' hk)
      | some k2 => exact List.mem_map.mpr ⟨(way M h0 k', k2), (mem_live W.sz).2 ⟨wayLe _ _ _, z⟩, rfl⟩
end Lg

-- ==== LgTupSet ====
set_option Elab.async false
set_option linter.all false
set_option maxRecDepth 100000
set_option maxHeartbeats 4000000
/-! LgTupSet: a set of up to 200 tuples of ints. -/
namespace Lg
open PySem PySem.Spec PyProof.Rows L2
section
variable {P : Program} {w : World} {A : Around} {E : Value → Shared → Prop} {s : Shared} {a : Addr} {L : List (Addr × List Int)} {es : Array (Int × Value)} {ep : Nat} {t : SetTable}
abbrev hsOf (P : Program) (w : World) (L : List (Addr × List Int)) : List Int := L.map fun p => thash P w p.2
structure SetG (P : Program) (w : World) (h : Heap) (a : Addr) (L : List (Addr × List Int)) (es : Array (Int × Value)) (ep : Nat) (t : SetTable) : Prop where
  ob : ∃ o, h.get? a = some o ∧ o.ExactSet ∧ o.data = .set es ep t
  rows : es.toList = rowsOf P w L
  tab : TabG t (hsOf P w L)
  nd : (L.map (·.2)).Nodup
  tup : ∀ p ∈ L, IsT P w h p.2 p.1
  plain : t.plain = true
  room : L.length * 5 < t.mask * 3
theorem rows_len (h : es.toList = rowsOf P w L) : es.size = L.length := by
  have h := congrArg List.length h
  unfold rowsOf at h
  rw [Array.length_toList, List.length_map] at h
  exact h
theorem fitsG {n : Nat} (hs : t.place.toList.length = n) (hd : t.dummies = #[]) (hm : n ≤ t.mask) : t.fits n = true := by
  rw [Array.length_toList] at hs
  unfold SetTable.fits SetTable.fill
  rw [hd, Bool.and_eq_true, beq_iff_eq, decide_eq_true_eq]
  exact ⟨hs, by show t.place.size + 0 ≤ t.mask; omega⟩
theorem SetG.psz (R : SetG P w s.heap a L es ep t) : t.place.toList.length = L.length := by
  rw [R.tab.sz]
  exact List.length_map ..
theorem SetG.fits (R : SetG P w s.heap a L es ep t) : t.fits es.size = true := by
  have := R.room
  rw [rows_len R.rows]
  exact fitsG R.psz R.tab.dm (by omega)
theorem SetG.entry (R : SetG P w s.heap a L es ep t) {i : Nat} {p : Addr × List Int} (h : L[i]? = some p) : es[i]? = some (thash P w p.2, Value.ref p.1) := by
  rw [← Array.getElem?_toList, R.rows]
  unfold rowsOf
  rw [List.getElem?_map, h]
  rfl
/-- the search, from the c-th step of the way on: nothing passed is k -/
theorem seek (R : SetG P w s.heap a L es ep t) {x : Addr} {k : List Int} (hx : IsT P w s.heap k x) (hu : A.units < cLine) {K : Nat} (hKf : K < 10 * SetTable.turns t.mask)
    (hK : way t.mask (thash P w k) K ∉ t.place.toList) (hKb : ∀ c, c < K → way t.mask (thash P w k) c ∈ t.place.toList) {Q : SetFound → Shared → Prop}
    (hin : k ∈ L.map (·.2) → Q (.there none) s) (hout : k ∉ L.map (·.2) → Q (.free (way t.mask (thash P w k) K) false) s) :
    ∀ (f c : Nat) (stand : Option SetTable.Probe), stand.getD (t.probeStart (thash P w k)) = nth t.mask (runAt t.mask (SetTable.bits (thash P w k) % (t.mask + 1)) (SetTable.bits (thash P w k))) c → c ≤ K → K - c < f →
      (∀ (i : Nat) p c', L[i]? = some p → p.2 = k → c' < c → t.place.toList[i]? ≠ some (way t.mask (thash P w k) c')) → wpAny (model P w) A (setSearchFrom a (.ref x) (thash P w k) true f stand) Q E s
  | 0, _, _, _, _, hf, _ => absurd hf (Nat.not_lt_zero _)
  | f + 1, c, stand, hst, hc, hf, hre => by
    obtain ⟨o, ho, hex, hd⟩ := R.ob
    generalize hp0 : runAt t.mask (SetTable.bits (thash P w k) % (t.mask + 1)) (SetTable.bits (thash P w k)) = p0 at hst
    have wj : ∀ q, (nth t.mask p0 q).j = way t.mask (thash P w k) q := fun q => by rw [← hp0]
    have sh : ∀ q, nth t.mask (nth t.mask p0 c) q = nth t.mask p0 (c + q) := fun q => (nth_add t.mask c _ q).symm
    have dm0 : ∀ (n : Nat) (p : SetTable.Probe), p.dummy = none → (nth t.mask p n).dummy = none := by
      intro n
      induction n with
      | zero => intro p h; exact h
      | succ n ih =>
        intro p h
        refine ih (adv t.mask p) ?_
        unfold adv
        split <;> exact h
    have hashAt : ∀ (i : Nat) p, L[i]? = some p → (es[i]?.map (·.1)).getD 0 = thash P w p.2 := fun i p hp => by
      rw [R.entry hp]
      rfl
    -- no entry of the key k lies from here on but at the table
    rw [setSearchFrom_succ]
    refine wpAny_bind (wpAny_setState_of ho hd R.fits ?_)
    dsimp only
    refine wp_if_neg (by unfold SetTable.gaveWay; rw [maskG_odd R.tab.msk]; decide) ?_
    try refine wpAny_bind (wpAny_pure ?_)
    rcases go_spec t R.tab.ris R.tab.dm (fun i => (es[i]?.map (·.1)).getD 0) (thash P w k) (10 * SetTable.turns t.mask) (K - c) (nth t.mask p0 c) (dm0 c p0 (by rw [← hp0]; rfl)) (by omega)
      (fun q hq => by rw [sh, wj]; exact hKb (c + q) (by omega)) (by rw [sh, wj, show c + (K - c) = K by omega]; exact hK) with ⟨q, i, hq, hi, hh, hno, hpr⟩ | ⟨hno, hpr⟩
    · have hpr' : t.probe (fun i => (es[i]?.map (·.1)).getD 0) (thash P w k) (stand.getD (t.probeStart (thash P w k))) = some (.candidate (way t.mask (thash P w k) (c + q)) i (nth t.mask p0 (c + (q + 1)))) := by
        rw [hst, ← wj, ← sh, ← sh]
        exact hpr
      rw [hpr']
      dsimp only
      rw [sh, wj] at hi
      have hil : i < L.length := by
        have h1 := (List.getElem?_eq_some_iff.mp hi).1
        rw [R.psz] at h1
        exact h1
      obtain ⟨p, hp⟩ : ∃ p, L[i]? = some p := ⟨_, List.getElem?_eq_getElem hil⟩
      have hmem : p ∈ L := List.mem_of_getElem? hp
      have hsl : t.slot (way t.mask (thash P w k) (c + q)) = .live i := slot_live R.tab.ris hi
      have rest : wpAny (model P w) A (searchRest a (.ref x) (thash P w k) true f es t (way t.mask (thash P w k) (c + q)) i (nth t.mask p0 (c + (q + 1)))) Q E s := by
        unfold searchRest
        rw [R.entry hp]
        dsimp only
        refine wpAny_bind (wpAny_holding (wpAny_eqBool_tuple hu (R.tup p hmem) hx ?_))
        refine wpAny_bind (wpAny_setState_of ho hd R.fits ?_)
        dsimp only
        by_cases hkk : p.2 = k
        · refine wp_if_pos (by simp [hkk]) ?_
          exact wpAny_pure (hin (List.mem_map.mpr ⟨p, hmem, hkk⟩))
        · refine wp_if_neg (by simp [hkk]) ?_
          try refine wpAny_bind (wpAny_pure ?_)
          rw [sameMem]
          dsimp only
          simp only [if_true, hsl, R.entry hp]
          refine wpAny_bind (wpAny_isSame_ref_self (wpAny_bind (wpAny_pure ?_)))
          simp only [if_true]
          refine wp_if_neg (by simp [hkk]) ?_
          refine seek R hx hu hKf hK hKb hin hout f (c + (q + 1)) _ (by rw [hp0]; rfl) (by omega) (by omega) fun i1 p1 c' h1 hk1 hc' e => ?_
          rcases Nat.lt_or_ge c' c with z | z
          · exact hre i1 p1 c' h1 hk1 z e
          · rcases Nat.lt_or_ge c' (c + q) with y | y
            · refine hno (c' - c) i1 (by omega) (by rw [sh, wj, show c + (c' - c) = c' by omega]; exact e) ?_
              exact (hashAt i1 p1 h1).trans (congrArg (thash P w) hk1)
            · obtain rfl : c' = c + q := by omega
              have s0 := slot_live R.tab.ris e
              rw [hsl] at s0
              injection s0 with s0
              rw [← s0, hp] at h1
              exact hkk ((congrArg Prod.snd (Option.some.inj h1)).trans hk1)
      by_cases hl : t.led = true
      · refine wp_if_neg (by simp [hl]) ?_
        try refine wpAny_bind (wpAny_pure ?_)
        exact rest
      · refine wp_if_pos (by simp [hl]) ?_
        refine wpAny_bind (seen_tup hx (fun y hy => ?_) ?_)
        · obtain ⟨e, he, ee⟩ := List.mem_map.mp hy
          have he1 : e ∈ es ∧ e.1 = thash P w k := by simpa using he
          have he2 : e ∈ es.toList := by simpa using he1.1
          rw [R.rows] at he2
          obtain ⟨p2, hp2, e2⟩ := List.mem_map.mp he2
          exact ⟨p2.2, p2.1, by rw [← ee, ← e2], R.tup p2 hp2⟩
        · refine wp_if_neg (by decide) ?_
          try refine wpAny_bind (wpAny_pure ?_)
          exact rest
    · have hpr' : t.probe (fun i => (es[i]?.map (·.1)).getD 0) (thash P w k) (stand.getD (t.probeStart (thash P w k))) = some (.empty (way t.mask (thash P w k) K) none) := by
        rw [hst, ← wj, show K = c + (K - c) by omega, ← sh]
        exact hpr
      rw [hpr']
      dsimp only
      refine wpAny_pure (hout fun hm => ?_)
      -- the entry of k would stand on the way
      obtain ⟨p1, h1, hk1⟩ := List.mem_map.mp hm
      obtain ⟨i1, hi1⟩ := List.mem_iff_getElem?.mp h1
      have hh1 : (hsOf P w L)[i1]? = some (thash P w k) := by rw [List.getElem?_map, hi1, ← hk1]; rfl
      have hil : i1 < t.place.toList.length := by
        rw [R.psz]
        exact (List.getElem?_eq_some_iff.mp hi1).1
      obtain ⟨j, hj⟩ : ∃ j, t.place.toList[i1]? = some j := ⟨_, List.getElem?_eq_getElem hil⟩
      obtain ⟨c1, e1, b1⟩ := R.tab.reach i1 _ j hh1 hj
      have hlt : c1 < K := Nat.lt_of_not_le fun z => by
        rcases Nat.lt_or_ge K c1 with y | y
        · exact hK (b1 K y)
        · obtain rfl : c1 = K := Nat.le_antisymm y z
          rw [e1] at hK
          exact hK (List.mem_of_getElem? hj)
      rw [← e1] at hj
      rcases Nat.lt_or_ge c1 c with z | z
      · exact hre i1 p1 c1 hi1 hk1 z hj
      · refine hno (c1 - c) i1 (by omega) (by rw [sh, wj, show c + (c1 - c) = c1 by omega]; exact hj) ?_
        exact (hashAt i1 p1 hi1).trans (congrArg (thash P w) hk1)
theorem seek_add (R : SetG P w s.heap a L es ep t) {x : Addr} {k : List Int} (hx : IsT P w s.heap k x) (hu : A.units < cLine) {Q : SetFound → Shared → Prop}
    (hin : k ∈ L.map (·.2) → Q (.there none) s)
    (hout : ∀ K, k ∉ L.map (·.2) → way t.mask (thash P w k) K ∉ t.place.toList → (∀ c, c < K → way t.mask (thash P w k) c ∈ t.place.toList) → Q (.free (way t.mask (thash P w k) K) false) s) :
    wpAny (model P w) A (setSearch a (.ref x) (thash P w k) true) Q E s := by
  have hroom := R.room
  have hle := maskG_le R.tab.msk
  obtain ⟨K, hKf, hK, hKb⟩ := R.tab.first (by rw [List.length_map]; omega) (thash P w k)
  have hbig : K < 100000 := by
    unfold SetTable.turns at hKf
    omega
  unfold setSearch
  exact seek R hx hu hKf hK hKb hin (fun hn => hout K hn hK hKb) 100000 0 none rfl (Nat.zero_le _) (by omega) fun i p c' _ _ h => absurd h (Nat.not_lt_zero _)
/-- the table laid anew -/
theorem relayG {o : Obj} (ho : s.heap.get? a = some o) (hex : o.ExactSet) (hd : o.data = .set es ep t) (hrows : es.toList = rowsOf P w L) (hsz : t.place.toList.length = L.length) (hdm : t.dummies = #[]) (hfl : L.length ≤ t.mask)
    (nd : (L.map (·.2)).Nodup) (tup : ∀ p ∈ L, IsT P w s.heap p.2 p.1) (pl : t.plain = true) {wanted M : Nat} (hw : SetTable.sizeAbove wanted - 1 = M) (hM : MaskG M) (hw2 : SetTable.sizeAbove wanted ≤ 512) (hn : L.length * 5 < M * 3) {Q : Unit → Shared → Prop}
    (hQ : ∀ h' L' es' ep' t', Heap.SameBut a s.heap h' → SetG P w h' a L' es' ep' t' → L'.Perm L → Q () { s with heap := h' }) : wpAny (model P w) A (setRelay a wanted) Q E s := by
  have hsl := rows_len hrows
  have hle := maskG_le hM
  obtain ⟨t', order, e, hp, T, em, el, epl⟩ := tab_anew t (hs := es.map (·.1)) (wanted := wanted) hw hM (by rw [Array.size_map, hsl]; omega)
  rw [Array.size_map, hsl] at hp
  obtain ⟨L2, r1, r2, r3⟩ := order_rows L es order hrows hp
  rw [← r3] at T
  have hs2 : (order.filterMap (es[·]?)).size = es.size := by rw [rows_len r1, r2.length_eq, hsl]
  rw [setRelay_eq]
  refine wpAny_bind (wpAny_setState_of ho hd (by rw [hsl]; exact fitsG hsz hdm hfl) ?_)
  dsimp only
  refine wp_if_neg (by rw [sizeLine_eq]; omega) ?_
  try refine wpAny_bind (wpAny_pure ?_)
  rw [e]
  dsimp only
  refine wpAny_bind ?_
  refine wp_if_neg (by rw [hs2]; simp) ?_
  try refine wpAny_bind (wpAny_pure ?_)
  refine wpAny_pure ?_
  dsimp only
  refine wpAny_storeSet_of ho hd ?_ (by rw [hs2, hsl, sizeLine_eq]; omega)
  have sb : Heap.SameBut a s.heap (s.heap.update a (Obj.putSet (order.filterMap (es[·]?)) t')) := Heap.SameBut.update ..
  refine hQ _ L2 (order.filterMap (es[·]?)) (ep + 1) t' sb ⟨⟨_, store_at ho hd, ⟨hex.1, hex.2.1, hex.2.2⟩, rfl⟩, r1, T, (r2.map (·.2)).nodup_iff.mpr nd, fun p hpm => isT_same (tup p (r2.mem_iff.mp hpm)) ho hd sb, by rw [epl]; exact pl, ?_⟩ r2
  rw [r2.length_eq, em]
  exact hn
theorem size_308 : SetTable.sizeAbove (SetTable.grown 77) = 512 := by decide +kernel
/-- adding one -/
theorem addG (R : SetG P w s.heap a L es ep t) {x : Addr} {k : List Int} (hx : IsT P w s.heap k x) (hu : A.units < cLine) (hfew : L.length < 300) {Q : Bool → Shared → Prop}
    (hQ : ∀ b h' L' es' ep' t', Heap.SameBut a s.heap h' → SetG P w h' a L' es' ep' t' → (k ∈ L.map (·.2) → L' = L) → (k ∉ L.map (·.2) → L'.Perm ((x, k) :: L)) → Q b { s with heap := h' }) :
    wpAny (model P w) A (setAddHashed a (.ref x) (thash P w k)) Q E s := by
  obtain ⟨o, ho, hex, hd⟩ := R.ob
  have hsl := rows_len R.rows
  have hroom := R.room
  have hle := maskG_le R.tab.msk
  unfold setAddHashed
  refine wpAny_holding ?_
  rw [show (100000 : Nat) = 99999 + 1 from rfl, setAddHashedIn_succ]
  refine wpAny_bind (wpAny_setState_of ho hd R.fits ?_)
  dsimp only
  refine wp_if_neg (by simp [byScan, Value.scannable]) ?_
  try refine wpAny_bind (wpAny_pure ?_)
  refine wpAny_bind (seek_add R hx hu (fun hm => ?_) fun K hm hK hb => ?_)
  · dsimp only
    exact wpAny_pure (hQ false s.heap L es ep t (Heap.SameBut.refl a s.heap) R (fun _ => rfl) fun z => absurd hm z)
  · dsimp only
    refine wpAny_bind (wpAny_setState_of ho hd R.fits ?_)
    dsimp only
    obtain ⟨q2, q3⟩ := R.tab.put hK hb rfl
    have q1 : (t.put (way t.mask (thash P w k) K)).2 = SetTable.below t.place (way t.mask (thash P w k) K) := rfl
    have q4 : (t.put (way t.mask (thash P w k) K)).1.mask = t.mask := rfl
    have hp1 : (t.put (way t.mask (thash P w k) K)).1.plain = true := R.plain
    generalize hpt : t.put (way t.mask (thash P w k) K) = pt at q1 q3 q4 hp1 ⊢
    obtain ⟨t1, p⟩ := pt
    dsimp only at q1 q3 q4 hp1 ⊢
    rw [← q1] at q2 q3
    have hin : (SetTable.insertAt es p (thash P w k, Value.ref x)).toList = rowsOf P w (L.take p ++ (x, k) :: L.drop p) := by
      rw [SetTable.toList_insertAt, rows_put, R.rows]
    have pm := put_perm L p (x, k)
    have hhs : hsOf P w (L.take p ++ (x, k) :: L.drop p) = (hsOf P w L).take p ++ thash P w k :: (hsOf P w L).drop p := by
      unfold hsOf
      rw [List.map_append, List.map_cons, List.map_take, List.map_drop]
    rw [← hhs] at q3
    generalize SetTable.insertAt es p (thash P w k, Value.ref x) = es1 at hin ⊢
    generalize L.take p ++ (x, k) :: L.drop p = L1 at pm q3 hin
    have hlen : L1.length = L.length + 1 := pm.length_eq
    have nd1 : (L1.map (·.2)).Nodup := by
      refine (pm.map (·.2)).nodup_iff.mpr ?_
      rw [List.map_cons]
      exact List.nodup_cons.mpr ⟨hm, R.nd⟩
    have hes := rows_len hin
    have hps : t1.place.toList.length = L1.length := by
      rw [q3.sz]
      exact List.length_map ..
    have hfill : t1.fill = L.length + 1 := by
      rw [Array.length_toList] at hps
      unfold SetTable.fill
      rw [q3.dm, hps, hlen]
      rfl
    first
      | (refine wpAny_bind ?_; refine wp_if_pos hp1 ?_; refine hashBy_tup hx ?_)
      | refine wp_if_pos hp1 (wpAny_bind (hashBy_tup hx ?_))
    simp only [if_true]
    refine wpAny_bind (wpAny_storeSet_of ho hd ?_ (by rw [hes, hlen, sizeLine_eq]; omega))
    have sb : Heap.SameBut a s.heap (s.heap.update a (Obj.putSet es1 t1)) := Heap.SameBut.update ..
    have ho1 := store_at (es' := es1) (t' := t1) ho hd
    generalize s.heap.update a (Obj.putSet es1 t1) = h1 at sb ho1 ⊢
    have tup1 : ∀ p ∈ L1, IsT P w h1 p.2 p.1 := fun p hp => by
      rcases List.mem_cons.mp (pm.mem_iff.mp hp) with e | hp
      · rw [e]; exact isT_same hx ho hd sb
      · exact isT_same (R.tup p hp) ho hd sb
    by_cases hf : t1.tooFull = true
    · first
        | (refine wpAny_bind ?_; refine wp_if_pos (by simp [hf]) ?_)
        | (refine wp_if_pos (by simp [hf]) ?_; refine wpAny_bind ?_)
      have hfull : (L.length + 1) * 5 ≥ t.mask * 3 := by
        have h := hf
        unfold SetTable.tooFull at h
        rw [decide_eq_true_eq, hfill, q4] at h
        exact h
      rw [hsl]
      have go : ∀ M, SetTable.sizeAbove (SetTable.grown (L.length + 1)) - 1 = M → MaskG M → SetTable.sizeAbove (SetTable.grown (L.length + 1)) ≤ 512 → (L.length + 1) * 5 < M * 3 →
          wpAny (model P w) A (setRelay a (SetTable.grown (L.length + 1))) (fun _ s' => wpAny (model P w) A (pure true) Q E s') E { s with heap := h1 } := fun M g1 g2 g3 g4 => by
        refine relayG (s := { s with heap := h1 }) ho1 ⟨hex.1, hex.2.1, hex.2.2⟩ rfl hin hps q3.dm (by rw [hlen, q4]; omega) nd1 tup1 hp1 g1 g2 g3 (by rw [hlen]; exact g4) ?_
        intro h2 L2 es2 ep2 t2 sb2 R2 pm2
        exact wpAny_pure (hQ true h2 L2 es2 ep2 t2 (sb.trans sb2) R2 (fun z => absurd z hm) fun _ => pm2.trans pm)
      rcases R.tab.msk with (e | e | e) | e
      · have e2 : L.length + 1 = 5 := by rw [e] at hfull hroom; omega
        exact go 31 (by rw [e2, size_20]) (.inl (.inr (.inl rfl))) (by rw [e2, size_20]; decide) (by omega)
      · have e2 : L.length + 1 = 19 := by rw [e] at hfull hroom; omega
        exact go 127 (by rw [e2, size_76]) (.inl (.inr (.inr rfl))) (by rw [e2, size_76]; decide) (by omega)
      · have e2 : L.length + 1 = 77 := by rw [e] at hfull hroom; omega
        exact go 511 (by rw [e2, size_308]) (.inr rfl) (by rw [e2, size_308]; decide) (by omega)
      · rw [e] at hfull
        omega
    · first
        | refine wp_if_neg (by simp [hf]) ?_
        | (refine wpAny_bind ?_; refine wp_if_neg (by simp [hf]) ?_; refine wpAny_pure ?_)
      refine wpAny_pure (hQ true h1 L1 es1 (ep + 1) t1 sb ⟨⟨_, ho1, ⟨hex.1, hex.2.1, hex.2.2⟩, rfl⟩, hin, q3, nd1, tup1, hp1, ?_⟩ (fun z => absurd z hm) fun _ => pm)
      have h := hf
      unfold SetTable.tooFull at h
      rw [decide_eq_true_eq, hfill] at h
      rw [hlen]
      omega
end
end Lg

-- ==== LgSetU ====
set_option Elab.async false
set_option linter.all false
set_option maxRecDepth 100000
set_option maxHeartbeats 4000000
/-! LgSetU: the loop of set.update for tuples of ints. -/
namespace Lg
open PySem PySem.Spec PyProof.Rows L2
section
variable {P : Program} {w : World} {A : Around} {E : Value → Shared → Prop} {s : Shared}
theorem SetG.keep {h h' : Heap} {a : Addr} {L : List (Addr × List Int)} {es : Array (Int × Value)} {ep : Nat} {t : SetTable} (R : SetG P w h a L es ep t) (ha : ∀ o, h.get? a = some o → h'.get? a = some o) (ht : ∀ p ∈ L, IsT P w h' p.2 p.1) : SetG P w h' a L es ep t := by
  obtain ⟨o, ho, r⟩ := R.ob
  exact ⟨⟨o, ha o ho, r⟩, R.rows, R.tab, R.nd, ht, R.plain, R.room⟩
theorem setG_fresh {h : Heap} {a : Addr} (ho : h.get? a = some { cls := .type "set", dict := none, data := .set #[] 0 (.fresh 0 0 (!w.params.followText "set-order")) }) : SetG P w h a [] #[] 0 (.fresh 0 0 (!w.params.followText "set-order")) where
  ob := ⟨_, ho, ⟨rfl, rfl, rfl⟩, rfl⟩
  rows := rfl
  tab := ⟨List.Pairwise.nil, rfl, rfl, .inl (.inl rfl), fun x hx => (by cases hx), fun i h j hi => (by simp at hi)⟩
  nd := List.nodup_nil
  tup := fun p hp => (by cases hp)
  plain := rfl
  room := by
    show 0 * 5 < 7 * 3
    decide
/-- set.update's loop -/
theorem set_updateG {I : Addr} {fp wr : List Addr} {G : Array GenState → Array GenState → Prop} {n : Nat} {Pv : Nat → Value → Prop} {St : Nat → Shared → Prop} {R : Result → Shared → Prop}
    (W : WalksS P w A.in1 I fp wr G n Pv St) (S : Addr) (hSf : S ∉ fp) (ks : List (Addr × List Int)) (hn : n = ks.length) (hfew : ks.length < 300) (hval : ∀ i v, Pv i v → ∃ p, ks[i]? = some p ∧ v = .ref p.1)
    (h0 : Heap) (hk : ∀ p ∈ ks, IsT P w h0 p.2 p.1) (hS0 : h0.get? S = none) (hw0 : ∀ b ∈ wr, h0.get? b = none) (hu : A.in1.units < cLine) :
    ∀ (k i : Nat) (s : Shared), n - i = k → i ≤ n → St i s → (∀ b o, h0.get? b = some o → s.heap.get? b = some o) → (∃ L es ep t, SetG P w s.heap S L es ep t ∧ Got ks i L) →
      (∀ s' L es ep t, Moved (S :: wr) G s s' → SetG P w s'.heap S L es ep t → Got ks n L → (∀ b o, h0.get? b = some o → s'.heap.get? b = some o) → R (.ok (.ret .none)) s') →
      codeAny (model P w) A (.builtin "set.update.loop" ⟨[.ref S, .ref I], []⟩) R s := by
  have hSw : S ∉ wr := fun h => hSf (W.sub _ h)
  have hsub : ∀ b ∈ wr, b ∈ S :: wr := fun b hb => List.mem_cons_of_mem _ hb
  have keepM : ∀ {s s' : Shared}, Moved wr G s s' → (∀ b o, h0.get? b = some o → s.heap.get? b = some o) → ∀ b o, h0.get? b = some o → s'.heap.get? b = some o := fun hm hkp b o e =>
    hm.heap b o (fun hb => by rw [hw0 b hb] at e; cases e) (hkp b o e)
  intro k
  induction k with
  | zero =>
    intro i s hk' hi hst hkp ⟨L, es, ep, t, hS, g⟩ hR
    have hin : i = n := by omega
    subst hin
    refine codeAny_builtin F.entry_set_update_loop ?_
    rw [Around.under_plainId F.plain_set_update_loop _]
    show wpAny _ A.in1 (pyNext (.ref I) >>= _) _ _ s
    refine wpAny_bind (W.done s _ _ hst fun s' hm => ?_)
    show wpAny _ A.in1 (ret Value.none) _ _ s'
    have hkp' := keepM hm hkp
    have sub : ∀ p ∈ L, p ∈ ks := fun p hp => List.mem_of_mem_take (g.sub p hp)
    exact wpAny_pure (hR s' L es ep t (hm.mono hsub) (hS.keep (fun o e => hm.heap S o hSw e) fun p hp => isT_keep (hk p (sub p hp)) hkp') g hkp')
  | succ k ih =>
    intro i s hk' hi hst hkp ⟨L, es, ep, t, hS, g⟩ hR
    have hlt : i < n := by omega
    refine codeAny_builtin F.entry_set_update_loop ?_
    rw [Around.under_plainId F.plain_set_update_loop _]
    show wpAny _ A.in1 (pyNext (.ref I) >>= _) _ _ s
    refine wpAny_bind (W.item i s _ _ hlt hst fun v s' hP hst' hm => ?_)
    obtain ⟨p, hp, rfl⟩ := hval i v hP
    have hkp' := keepM hm hkp
    have sub : ∀ p ∈ L, p ∈ ks := fun p hp => List.mem_of_mem_take (g.sub p hp)
    have hS' : SetG P w s'.heap S L es ep t := hS.keep (fun o e => hm.heap S o hSw e) fun q hq => isT_keep (hk q (sub q hq)) hkp'
    have hx : IsT P w s'.heap p.2 p.1 := isT_keep (hk p (List.mem_of_getElem? hp)) hkp'
    show wpAny _ A.in1 (holding [Value.ref p.1] (setAdd S (.ref p.1)) >>= _) _ _ s'
    refine wpAny_bind (wpAny_holding ?_)
    unfold setAdd
    refine wpAny_holding ?_
    refine wpAny_bind (wpAny_pyHash_tuple hu hx ?_)
    refine addG (s := { s' with toks := s'.toks + (p.2.length + 1) }) hS' hx hu (by have := g.len; omega) fun b h' L' es' ep' t' hsb hS2 c1 c2 => ?_
    have g' : Got ks (i + 1) L' := by
      rcases Classical.em (p.2 ∈ L.map (·.2)) with c | c
      · rw [c1 c]; exact g.same hp c
      · exact g.more hp (c2 c)
    have hkp2 : ∀ b o, h0.get? b = some o → h'.get? b = some o := fun b o e => (hsb.2 b (fun z => by rw [z, hS0] at e; cases e)).trans (hkp' b o e)
    refine wpAny_pure ⟨plainId_quiet F.plain_set_update_loop _, ih (i + 1) _ (by omega) hlt (W.frame _ s' _ _ hst' (Nat.le_add_right _ _) fun b hb o e => ?_) hkp2 ⟨L', es', ep', t', hS2, g'⟩ fun s'' L2 es2 ep2 t2 hm'' hS'' g'' hkp'' => ?_⟩
    · rw [hsb.2 b (fun h : b = S => hSf (by rw [← h]; exact hb))]; exact e
    · refine hR s'' L2 es2 ep2 t2 (Moved.trans W.gtrans ((hm.mono hsub).then_heap (Nat.le_add_right _ _) fun b o hb e => ?_) hm'') hS'' g'' hkp''
      rw [hsb.2 b (fun h : b = S => hb (by rw [h]; exact List.mem_cons_self))]; exact e
end
end Lg

-- ==== LgSetC ====
set_option Elab.async false
set_option linter.all false
set_option maxRecDepth 100000
set_option maxHeartbeats 4000000
/-! LgSetC: set(list), by what its loop does. -/
namespace L2
open PySem PySem.Spec PyProof.Rows
section
variable {P : Program} {w : World} {A : Around} {E : Value → Shared → Prop} {s : Shared}
set_option maxRecDepth 100000 in
set_option maxHeartbeats 3200000 in
/-- set(l): what the loop of set.update does decides -/
theorem call_set_gen {l : Addr} {items : Array Value} {Q : Value → Shared → Prop} (Post : Heap → Prop) (hl : s.heap.IsList l items)
    (hrun : ∀ Rr : Result → Shared → Prop, (∀ s', Moved [s.heap.objs.size, s.heap.objs.size + 1] (fun a b => b = a) { s with heap := (s.heap.push { cls := .type "set", dict := none, data := .set #[] 0 (.fresh 0 0 (!w.params.followText "set-order")) }).push { cls := .type "list_iterator", data := .fields #[.ref l, .int 0 0] } } s' → Post s'.heap → Rr (.ok (.ret .none)) s') →
      codeAny (model P w) A.in1.in1 (.builtin "set.update.loop" ⟨[.ref s.heap.objs.size, .ref (s.heap.objs.size + 1)], []⟩) Rr { s with heap := (s.heap.push { cls := .type "set", dict := none, data := .set #[] 0 (.fresh 0 0 (!w.params.followText "set-order")) }).push { cls := .type "list_iterator", data := .fields #[.ref l, .int 0 0] } })
    (h : ∀ (h' : Heap) (tk : Nat), Post h' → (∀ b o, s.heap.get? b = some o → h'.get? b = some o) → Q (.ref s.heap.objs.size) { s with heap := h', toks := tk }) :
    wpAny (model P w) A (call (.type "set") [.ref l]) Q E s := by
  obtain ⟨c, tl, hmro⟩ := F.called_set.mro
  have hmade := F.called_set.made
  have hsub := F.called_set.sub
  refine wpAny_call (codeAny_of_tree ?_)
  show wpAny _ _ (callAny (.type "set") _) _ _ _
  refine wpAny_pure ⟨Code.quiet_builtin _ (by decide +kernel), codeAny_builtin F.entry_type_call ?_⟩
  rw [Around.under_plain (weight_type_call_type "set" [.ref l] []) rfl]
  have h1 := F.called_set.notType
  have h2 := F.called_set.canCreate
  have hct := F.typeCall_set_1 (.ref l)
  repeat (any_goals (first | assumption | wp_step))

  refine codeAny_mono (code_set_led1 (.ref l) (E := E) (Q₁ := fun obj s₁ => obj = .ref s.heap.objs.size ∧ s₁ = { s with heap := s.heap.push { cls := .type "set", dict := none, data := .set #[] 0 (.fresh 0 0 (!w.params.followText "set-order")) } }) ⟨rfl, rfl⟩) fun r s₁ hr => ?_
  cases r with
  | error e => exact hr
  | ok fl =>
    cases fl with
    | ret obj =>
      obtain ⟨rfl, rfl⟩ := hr
      have hS : (s.heap.push { cls := .type "set", dict := none, data := .set #[] 0 (.fresh 0 0 (!w.params.followText "set-order")) }).get? s.heap.objs.size = some { cls := .type "set", dict := none, data := .set #[] 0 (.fresh 0 0 (!w.params.followText "set-order")) } := Heap.get?_push_size _ rfl
      have hT : Shared.TypeIs { s with heap := s.heap.push { cls := .type "set", dict := none, data := .set #[] 0 (.fresh 0 0 (!w.params.followText "set-order")) } } (.ref s.heap.objs.size) "set" := ⟨_, hS, rfl⟩
      have hli := F.called_set.init.lookup
      have hbi := F.called_set.init.bind (.ref s.heap.objs.size)
      repeat (any_goals (first | assumption | wp_step))

      refine codeAny_mono (codeAny_call_builtin (R := wants (fun r s₂ => r = .none ∧ ∃ h' tk, s₂ = { s with heap := h', toks := tk } ∧ Post h' ∧
          (∀ b o, s.heap.get? b = some o → h'.get? b = some o)) E) F.called_set.init.plain F.entry_set_init (check_set_init_1 hT ?_)) fun r₂ s₂ hr₂ => ?_
      · obtain ⟨ol, hol, hcl, nl, hdl⟩ := hl
        obtain ⟨ocls, odict, odata, oslots⟩ := ol
        simp only at hcl hdl
        subst hcl; subst hdl
        have hol' : (s.heap.push { cls := .type "set", dict := none, data := .set #[] 0 (.fresh 0 0 (!w.params.followText "set-order")) }).get? l = some { cls := .type "list", dict := odict, data := .seq items nl, slots := oslots } := Heap.get?_push_of_some _ hol
        have hsls := F.sub_list_set
        have hslf := F.sub_list_frozenset
        have hne : (Value.type "list" == Value.type "dict") = false := by decide
        have hl1 : (s.heap.push { cls := .type "set", dict := none, data := .set #[] 0 (.fresh 0 0 (!w.params.followText "set-order")) }).IsList l items := ⟨_, hol', rfl, nl, rfl⟩
        unfold Builtin.«set.__init__» noKeywords Builtin.Frozenset.updateFrom
        generalize hPI : pyIter = PI
        wp_walk
        subst hPI

        refine wpAny_pyIter_list hl1 ?_
        refine wpAny_bind (wpAny_runValue ?_)
        have hz1 : (s.heap.push { cls := .type "set", dict := none, data := .set #[] 0 (.fresh 0 0 (!w.params.followText "set-order")) }).objs.size = s.heap.objs.size + 1 := Heap.size_push ..
        rw [hz1]
        refine hrun _ fun s' hm hp => ?_
        obtain ⟨h', g2, d', tk', os'⟩ := s'
        have eg : g2 = s.gens := hm.gens
        have ed : d' = s.drawn := hm.drawn
        have eo : os' = s.os := hm.os
        subst eg; subst ed; subst eo
        show wpAny _ _ _ _ _ _
        refine wpAny_pure ?_
        show wpAny _ _ (ret Value.none) _ _ _
        refine wpAny_pure ⟨rfl, h', tk', rfl, hp, fun b o e => ?_⟩
        have hb0 : b < s.heap.objs.size := Heap.lt_size e
        exact hm.heap b o (by simp only [List.mem_cons, List.mem_singleton, List.not_mem_nil, or_false, not_or]; exact ⟨Nat.ne_of_lt hb0, Nat.ne_of_lt (Nat.lt_succ_of_lt hb0)⟩) (Heap.get?_push_of_some _ (Heap.get?_push_of_some _ e))

      · cases r₂ with
        | error e => exact hr₂
        | ok fl₂ =>
          cases fl₂ with
          | ret r =>
            obtain ⟨rfl, h', tk, rfl, hP', hk'⟩ := hr₂
            repeat (any_goals (first | assumption | wp_step))
            exact h _ _ hP' hk'
          | _ => exact hr₂.elim
    | _ => exact hr.elim

end
end L2

-- ==== LgSets ====
set_option Elab.async false
set_option linter.all false
set_option maxRecDepth 100000
set_option maxHeartbeats 4000000
/-! LgSets: set(list of ints), set(list of pairs), len of such a set; a method within a try. -/
namespace L2
open PySem PySem.Spec PyProof.Rows
section
variable {P : Program} {w : World} {A : Around} {E : Value → Shared → Prop} {s : Shared}
/-- set(xs), xs a list of ints -/
theorem call_set_lstI {l : Addr} {items : Array Value} (ns : List Int) {Q : Value → Shared → Prop} (hh : A.handled = none) (hl : s.heap.IsList l items) (hit : IntsAre items.toList ns) (hb : ns.length + 1 < scanBound)
    (h : ∀ (h' : Heap) (tk c : Nat), SetR w h' s.heap.objs.size (fun j => decide (j ∈ ns)) c → c ≤ ns.length → (∀ b o, s.heap.get? b = some o → h'.get? b = some o) → Q (.ref s.heap.objs.size) { s with heap := h', toks := tk }) :
    wpAny (model P w) A (call (.type "set") [.ref l]) Q E s := by
  have hisz : items.size = ns.length := by
    have q := IntsAre.length hit
    rw [Array.length_toList] at q
    exact q
  refine call_set_gen (Post := fun h' => ∃ c, SetR w h' s.heap.objs.size (fun j => decide (j ∈ ns)) c ∧ c ≤ ns.length) hl (fun Rr hR => ?_) fun h' tk ⟨c, r, hc⟩ k => h h' tk c r hc k
  have hlS : l < s.heap.objs.size := by
    obtain ⟨ol, hol, _⟩ := hl
    exact Heap.lt_size hol
  have hh3 : A.in1.in1.in1.handled = none := by simp [hh]
  have hneI : l ≠ s.heap.objs.size + 1 := Nat.ne_of_lt (Nat.lt_succ_of_lt hlS)
  have hSf : s.heap.objs.size ∉ [s.heap.objs.size + 1, l] := by
    simp only [List.mem_cons, List.mem_singleton, List.not_mem_nil, or_false, not_or]
    exact ⟨Nat.ne_of_lt (Nat.lt_succ_self _), Nat.ne_of_gt hlS⟩
  have hS : (s.heap.push { cls := .type "set", dict := none, data := .set #[] 0 (.fresh 0 0 (!w.params.followText "set-order")) }).get? s.heap.objs.size = some { cls := .type "set", dict := none, data := .set #[] 0 (.fresh 0 0 (!w.params.followText "set-order")) } := Heap.get?_push_size _ rfl
  have hz1 : (s.heap.push { cls := .type "set", dict := none, data := .set #[] 0 (.fresh 0 0 (!w.params.followText "set-order")) }).objs.size = s.heap.objs.size + 1 := Heap.size_push ..
  have hI : ((s.heap.push { cls := .type "set", dict := none, data := .set #[] 0 (.fresh 0 0 (!w.params.followText "set-order")) }).push { cls := .type "list_iterator", data := .fields #[.ref l, .int 0 0] }).get? (s.heap.objs.size + 1) = some { cls := .type "list_iterator", data := .fields #[.ref l, .int 0 0] } := by
    rw [← hz1]
    exact Heap.get?_push_size _ rfl
  have hval : ∀ (i : Nat) (v : Value), items[i]? = some v → ∃ k t, ns[i]? = some k ∧ v = .int k t := fun i v hv => by
    have hi : i < ns.length := by rw [← hisz]; exact (Array.getElem?_eq_some_iff.mp hv).1
    obtain ⟨t, e⟩ := PyProof.Rows.IntsAre.int_at hit i v (by rw [Array.getElem?_toList]; exact hv)
    refine ⟨ns[i], t, List.getElem?_eq_getElem hi, ?_⟩
    rw [e, List.getD_eq_getElem?_getD, List.getElem?_eq_getElem hi] <;> rfl
  refine set_update_ints ((Walks.list hh3 _ l hneI items).toS) s.heap.objs.size
    hSf ns hisz hb hval (items.size - 0) 0 _ (by omega) (Nat.zero_le _)
    ⟨⟨_, hI, rfl, rfl⟩, ((hl.push _).push _)⟩ ?hS0 ?hR
  case hS0 => exact ⟨0, Nat.le_refl 0, setR_new_at (Heap.get?_push_of_some _ hS)⟩
  case hR => exact fun s' c' hm hc' hS' => hR s' hm ⟨c', hS', by rw [hisz] at hc'; exact hc'⟩
/-- set(xs), xs a list of tuples of ints -/
theorem call_setG {l : Addr} {items : Array Value} (ks : List (Addr × List Int)) {Q : Value → Shared → Prop} (hh : A.handled = none) (hl : s.heap.IsList l items) (hit : items.toList = ks.map fun p => Value.ref p.1)
    (hk : ∀ p ∈ ks, IsT P w s.heap p.2 p.1) (hfew : ks.length < 300) (hu : A.units + 3 < cLine)
    (h : ∀ (h' : Heap) (tk : Nat) L es ep t, Lg.SetG P w h' s.heap.objs.size L es ep t → Got ks ks.length L → (∀ b o, s.heap.get? b = some o → h'.get? b = some o) → Q (.ref s.heap.objs.size) { s with heap := h', toks := tk }) :
    wpAny (model P w) A (call (.type "set") [.ref l]) Q E s := by
  have hisz : items.size = ks.length := by
    have q := congrArg List.length hit
    rw [Array.length_toList, List.length_map] at q
    exact q
  refine call_set_gen (Post := fun h' => ∃ L es ep t, Lg.SetG P w h' s.heap.objs.size L es ep t ∧ Got ks ks.length L) hl (fun Rr hR => ?_) fun h' tk ⟨L, es, ep, t, r, g⟩ k => h h' tk L es ep t r g k
  have hlS : l < s.heap.objs.size := by
    obtain ⟨ol, hol, _⟩ := hl
    exact Heap.lt_size hol
  have hh3 : A.in1.in1.in1.handled = none := by simp [hh]
  have hneI : l ≠ s.heap.objs.size + 1 := Nat.ne_of_lt (Nat.lt_succ_of_lt hlS)
  have hSf : s.heap.objs.size ∉ [s.heap.objs.size + 1, l] := by
    simp only [List.mem_cons, List.mem_singleton, List.not_mem_nil, or_false, not_or]
    exact ⟨Nat.ne_of_lt (Nat.lt_succ_self _), Nat.ne_of_gt hlS⟩
  have hS : (s.heap.push { cls := .type "set", dict := none, data := .set #[] 0 (.fresh 0 0 (!w.params.followText "set-order")) }).get? s.heap.objs.size = some { cls := .type "set", dict := none, data := .set #[] 0 (.fresh 0 0 (!w.params.followText "set-order")) } := Heap.get?_push_size _ rfl
  have hz1 : (s.heap.push { cls := .type "set", dict := none, data := .set #[] 0 (.fresh 0 0 (!w.params.followText "set-order")) }).objs.size = s.heap.objs.size + 1 := Heap.size_push ..
  have hI : ((s.heap.push { cls := .type "set", dict := none, data := .set #[] 0 (.fresh 0 0 (!w.params.followText "set-order")) }).push { cls := .type "list_iterator", data := .fields #[.ref l, .int 0 0] }).get? (s.heap.objs.size + 1) = some { cls := .type "list_iterator", data := .fields #[.ref l, .int 0 0] } := by
    rw [← hz1]
    exact Heap.get?_push_size _ rfl
  have hval : ∀ (i : Nat) (v : Value), items[i]? = some v → ∃ p, ks[i]? = some p ∧ v = .ref p.1 := fun i v hv => by
    have q : items.toList[i]? = some v := by rw [Array.getElem?_toList]; exact hv
    rw [hit, List.getElem?_map] at q
    cases hq : ks[i]? with
    | none => rw [hq] at q; cases q
    | some p =>
      rw [hq] at q
      exact ⟨p, rfl, (Option.some.inj q).symm⟩
  have none_of : ∀ b, s.heap.objs.size ≤ b → s.heap.get? b = none := fun b hb => by
    cases q : s.heap.get? b with
    | none => rfl
    | some o => exact absurd (Nat.lt_of_lt_of_le (Heap.lt_size q) hb) (Nat.lt_irrefl _)
  refine Lg.set_updateG ((Walks.list hh3 _ l hneI items).toS) s.heap.objs.size
    hSf ks hisz hfew hval s.heap hk (none_of _ (Nat.le_refl _)) (fun b hb => none_of b (by
      rw [List.mem_singleton.mp hb]
      exact Nat.le_succ _)) hu (items.size - 0) 0 _ (by omega) (Nat.zero_le _)
    ⟨⟨_, hI, rfl, rfl⟩, ((hl.push _).push _)⟩ (fun b o e => Heap.get?_push_of_some _ (Heap.get?_push_of_some _ e)) ?hS0 ?hR
  case hS0 => exact ⟨[], #[], 0, _, Lg.setG_fresh (Heap.get?_push_of_some _ hS), Got.zero ks⟩
  case hR => exact fun s' L es ep t hm hS' g' _ => hR s' hm ⟨L, es, ep, t, hS', by rw [hisz] at g'; exact g'⟩
end
end L2
namespace Lg
open PySem PySem.Spec PyProof.Rows L2
theorem hu65 {k : Nat} {A : Around} (r : Room k A) : A.units + 65 < cLine := by
  have := r.un
  omega
/-- set(xs), xs a list of ints: m its members, each once -/
def rSetI (K : PySem.W.Frag) (w : World) : List V → Hp → VK → Prop := fun xs H Q => ∃ (l : Addr) (ns : List Int), xs = [V.ref l] ∧ SqL K H l (ns.map V.int) ∧ ns.length ≤ 1000 ∧
  ∀ (a : Addr) (m : List Int), H a = none → m.Nodup → (∀ k, k ∈ m ↔ k ∈ ns) → Q (.ref a) (upd H a (SetO w a (fun k => decide (k ∈ ns)) m.length))
section
variable {X : Cx}
theorem c_setI (hc : X.calm = true) : CallR X (.type "set") (rSetI X.K X.w) := by
  intro pins s σ H xs us Q I r h
  obtain ⟨l, ns, rfl, hl, hn, q⟩ := h
  rw [Vals.ref1 r]
  obtain ⟨its, rv, pl, hz⟩ := I.list hl
  refine call_set_lstI (P := X.prog) (w := X.w) ns (I.ok.hd hc) pl.isList (by simpa using rv.ints) (by
    have : (1001 : Nat) < scanBound := by decide
    omega) fun h' tk c R hc' k => ?_
  have R' := R
  obtain ⟨o, es, ep, t, ho, hex, hd, g1, g2, g3, g4, g5, g6, g7⟩ := R'
  have hl' : (es.toList.map keyOf).length = c := by
    rw [List.length_map, Array.length_toList]
    exact g6
  have hm : ∀ k, k ∈ es.toList.map keyOf ↔ k ∈ ns := fun k => by
    rw [← g3 k]
    exact decide_eq_true_iff
  have hfr : H s.heap.objs.size = none := I.hok.fresh (Nat.le_refl _)
  have q' := q s.heap.objs.size _ hfr g2 hm
  rw [hl'] at q'
  exact ⟨.ref s.heap.objs.size, _, I.laid (t' := tk) k (Nat.le_refl _) (setO_new R), rfl, q'⟩
end
/-- a set of which only the size is known -/
def SizeO (a : Addr) (n : Nat) : HO := .ext fun h => ∃ o es ep t, h.get? a = some o ∧ o.ExactSet ∧ o.data = .set es ep t ∧ es.size = n ∧ n ≤ 300 ∧ t.fits es.size = true
/-- set(xs), xs a list of tuples of ints: so many different ones -/
def rSetT (K : PySem.W.Frag) (P : Program) (w : World) : List V → Hp → VK → Prop := fun xs H Q => ∃ (l : Addr) (ks : List (Addr × List Int)), xs = [V.ref l] ∧ SqL K H l (ks.map fun p => V.ref p.1) ∧ (∀ p ∈ ks, SqT K H p.1 (p.2.map V.int)) ∧ ks.length ≤ 200 ∧
  ∀ (a : Addr) (m : List (List Int)), H a = none → m.Nodup → (∀ k, k ∈ m ↔ k ∈ ks.map (·.2)) → Q (.ref a) (upd H a (SizeO a m.length))
def rLenSetT (P : Program) (w : World) : List V → Hp → VK → Prop := fun xs H Q => ∃ (a : Addr) (n : Nat), xs = [V.ref a] ∧ H a = some (SizeO a n) ∧ Q (.int (n : Int)) H
section
variable {X : Cx}
theorem c_setT (hc : X.calm = true) (hu : X.A.units + 64 < cLine) : CallR X (.type "set") (rSetT X.K X.prog X.w) := by
  intro pins s σ H xs us Q I r h
  obtain ⟨l, ks, rfl, hl, hk, hf, q⟩ := h
  rw [Vals.ref1 r]
  obtain ⟨its, rv, pl, hz⟩ := I.list hl
  have hn : H s.heap.objs.size = none := I.hok.fresh (Nat.le_refl _)
  refine call_setG (P := X.prog) (w := X.w) ks (I.ok.hd hc) pl.isList (by simpa using refs_of_vals rv) (fun p hp => I.isT (hk p hp)) (by omega) (by omega) fun h' tk L es ep t R g k => ?_
  have q' := q s.heap.objs.size (L.map (·.2)) hn R.nd fun x => ?_
  · refine ⟨.ref s.heap.objs.size, _, I.laid (t' := tk) k (Nat.le_refl _) ?_, rfl, q'⟩
    have hs : es.size = (L.map (·.2)).length := by rw [rows_len R.rows, List.length_map]
    obtain ⟨o, ho, hex, hd⟩ := R.ob
    refine ⟨⟨o, es, ep, t, ho, hex, hd, hs, by rw [List.length_map]; have := g.len; omega, SetG.fits (s := { s with heap := h' }) R⟩, ⟨o, ho⟩, fun h1 h2 p k => ?_⟩
    have ⟨o', es', ep', t', ho', r'⟩ := p
    exact ⟨o', es', ep', t', k o' ho', r'⟩
  · refine ⟨fun hx => ?_, fun hx => ?_⟩
    · obtain ⟨p, hp, e⟩ := List.mem_map.mp hx
      exact List.mem_map.mpr ⟨p, List.mem_of_mem_take (g.sub p hp), e⟩
    · obtain ⟨p, hp, e⟩ := List.mem_map.mp hx
      rw [← e]
      exact g.all p (by rw [List.take_length]; exact hp)
theorem c_lenSetT : CallR X (.builtin "len") (rLenSetT X.prog X.w) := by
  intro pins s σ H xs us Q I r h
  obtain ⟨a, n, rfl, ha, q⟩ := h
  rw [Vals.ref1 r]
  have R0 : ∃ o es ep t, s.heap.get? a = some o ∧ o.ExactSet ∧ o.data = .set es ep t ∧ es.size = n ∧ n ≤ 300 ∧ t.fits es.size = true := (I.hok a _ ha).1
  obtain ⟨o, es, ep, t, ho, hex, hd, hn, hn2, hf⟩ := R0
  refine call_len_set ho hex hd hf ?_ ?_
  · rw [hn]; omega
  · exact ⟨.int n, H, I.tok _, ⟨_, by rw [hn]⟩, q⟩
end
/-! ### a method within a try -/
def tMethSD (C : Addr) (m : Str) (sp : Sp) (E : L2.St → XK) (ta : TE) (t : TA) : TE := fun σ H Q => ta σ H fun x H1 => ∃ a dx fs, x = .ref a ∧ H1 a = some (.ins C dx fs) ∧ fs.lookup m = none ∧ t σ H1 fun vs H2 => sp (x :: vs) H2 Q (E σ)
theorem pe_methSD {X : Cx} {CX : CXT} {k : Nat} {f C : Addr} {ps : List Str} {sp : Sp} {E : L2.St → XK} {m : Str} {pos apos : Pos} {e o : Expr} {es : List Expr} {ta : TE} {t : TA} {pl : Sem Bool} (G : DOk X.prog X.w X.K X.mg X.base CX k f ps sp) (hr : Room k X.A) (c : Cls X.K C) (hm : Meth X.K C m f)
    (hx : ∀ σ, PassesAt CX X σ (E σ)) (he : PE X o ta) (ha : PA X (e :: es) t)
    (hst : starEach (e :: es) X.env = (false, eval e X.env) :: starEach es X.env := by rfl) (hpl : (backTo pos (starEach es X.env)).any (·.1) = false := by rfl)
    (ht : eval (.Call (.Attribute o m apos) (e :: es) [] pos) X.env = (do
      let ov ← eval o X.env
      standAt apos.atName
      let (f, first) ← holding [ov] (getMethod ov m pl)
      callWith pos f first (backTo pos (starEach (e :: es) X.env)) (backToKw pos (keywordEach [] X.env))) := by rfl) :
    PE X (.Call (.Attribute o m apos) (e :: es) [] pos) (tMethSD C m sp E ta t) := by
  obtain ⟨fd, F, hb, _⟩ := G
  refine ⟨fun pins s σ H Q I h => ?_⟩
  refine PySem.W.methodCall_KW (pl := pl) (thn (he.run pins s σ H _ I h) fun u s1 ⟨x, H1, I1, rx, a, dx, fs, ex, ea, l, q⟩ => ?_) ht
  subst ex
  obtain rfl : u = Value.ref a := rx
  refine getmeth_ok I1 ea c hm l ?_
  refine PySem.W.callWith_K (first := [.ref a]) (h₀ := X.base) I.ok.mod.kin hm.kp (thn (ha.run pos pins s1 σ H1 _ I1 q) fun us s2 ⟨vs, H2, I2, r, q2⟩ => ⟨I2.kIn, ?_⟩) hst hpl
  exact run_fnS (us := .ref a :: us) (vs := .ref a :: vs) F hr hb (hx σ) I2 (.cons rfl r) q2
end Lg

-- ==== LgTxt ====
set_option Elab.async false
set_option linter.all false
set_option maxRecDepth 100000
set_option maxHeartbeats 4000000
/-! LgTxt: what the top of the program has written (printed by gen.py). -/
namespace Lg
open PySem PySem.Spec PyProof.Rows L2
abbrev topS (i : Nat) : Stmt := PySem.Challenge.pw_linegrafts_s01_answers.main.body.getD i (.Pass ⟨0, 0, 0, 0⟩)
structure Txt (K : PySem.W.Frag) (mg : Str → Option Value) : Prop where
  g_kept_table : mg "kept_table" = some (.ref (gad K "kept_table"))
  g_difference_of : mg "difference_of" = some (.ref (gad K "difference_of"))
  g_written_change : mg "written_change" = some (.ref (gad K "written_change"))
  g_steps_of : mg "steps_of" = some (.ref (gad K "steps_of"))
  g_reached_from : mg "reached_from" = some (.ref (gad K "reached_from"))
  g_visible_of : mg "visible_of" = some (.ref (gad K "visible_of"))
  g_demand : mg "demand" = some (.ref (gad K "demand"))
  g_told_row : mg "told_row" = some (.ref (gad K "told_row"))
  g_told_line : mg "told_line" = some (.ref (gad K "told_line"))
  g_lines_in : mg "lines_in" = some (.ref (gad K "lines_in"))
  g_pairs_in : mg "pairs_in" = some (.ref (gad K "pairs_in"))
  g_answers : mg "answers" = some (.ref (gad K "answers"))
  g_Change : mg "Change" = some (.ref (gad K "Change"))
  cl_Change : Cls K (gad K "Change")
  k_Change : Mk K (gad K "Change") (mad K "Change" "__init__")
  g_Difference : mg "Difference" = some (.ref (gad K "Difference"))
  cl_Difference : Cls K (gad K "Difference")
  k_Difference : Mk K (gad K "Difference") (mad K "Difference" "__init__")
  g_Order : mg "Order" = some (.ref (gad K "Order"))
  cl_Order : Cls K (gad K "Order")
  k_Order : Mk K (gad K "Order") (mad K "Order" "__init__")
  g_Session : mg "Session" = some (.ref (gad K "Session"))
  cl_Session : Cls K (gad K "Session")
  k_Session : Mk K (gad K "Session") (mad K "Session" "__init__")
  m_Change_chains : Meth K (gad K "Change") "chains" (mad K "Change" "chains")
  m_Change_dependencies : Meth K (gad K "Change") "dependencies" (mad K "Change" "dependencies")
  a_Change_number : NoAttr K (gad K "Change") "number"
  a_Change_hunks : NoAttr K (gad K "Change") "hunks"
  a_Change_deleted : NoAttr K (gad K "Change") "deleted"
  a_Change_lines : NoAttr K (gad K "Change") "lines"
  a_Difference_deleted : NoAttr K (gad K "Difference") "deleted"
  a_Difference_inserted : NoAttr K (gad K "Difference") "inserted"
  m_Order_precedes : Meth K (gad K "Order") "precedes" (mad K "Order" "precedes")
  m_Order_next_of : Meth K (gad K "Order") "next_of" (mad K "Order" "next_of")
  m_Order_conflicts : Meth K (gad K "Order") "conflicts" (mad K "Order" "conflicts")
  a_Order_reached : NoAttr K (gad K "Order") "reached"
  a_Order_lines : NoAttr K (gad K "Order") "lines"
  m_Session_ask_branch : Meth K (gad K "Session") "ask_branch" (mad K "Session" "ask_branch")
  m_Session_ask_change : Meth K (gad K "Session") "ask_change" (mad K "Session" "ask_change")
  m_Session_ask_room : Meth K (gad K "Session") "ask_room" (mad K "Session" "ask_room")
  m_Session_order : Meth K (gad K "Session") "order" (mad K "Session" "order")
  m_Session_line_at : Meth K (gad K "Session") "line_at" (mad K "Session" "line_at")
  m_Session_add : Meth K (gad K "Session") "add" (mad K "Session" "add")
  m_Session_record : Meth K (gad K "Session") "record" (mad K "Session" "record")
  m_Session_required : Meth K (gad K "Session") "required" (mad K "Session" "required")
  m_Session_fork : Meth K (gad K "Session") "fork" (mad K "Session" "fork")
  m_Session_write : Meth K (gad K "Session") "write" (mad K "Session" "write")
  m_Session_delete : Meth K (gad K "Session") "delete" (mad K "Session" "delete")
  m_Session_apply : Meth K (gad K "Session") "apply" (mad K "Session" "apply")
  m_Session_merge : Meth K (gad K "Session") "merge" (mad K "Session" "merge")
  m_Session_revert : Meth K (gad K "Session") "revert" (mad K "Session" "revert")
  m_Session_text_order : Meth K (gad K "Session") "text_order" (mad K "Session" "text_order")
  m_Session_show : Meth K (gad K "Session") "show" (mad K "Session" "show")
  m_Session_shown_lines : Meth K (gad K "Session") "shown_lines" (mad K "Session" "shown_lines")
  m_Session_change : Meth K (gad K "Session") "change" (mad K "Session" "change")
  m_Session_requirements : Meth K (gad K "Session") "requirements" (mad K "Session" "requirements")
  m_Session_apply_all : Meth K (gad K "Session") "apply_all" (mad K "Session" "apply_all")
  m_Session_revert_all : Meth K (gad K "Session") "revert_all" (mad K "Session" "revert_all")
  m_Session_explain : Meth K (gad K "Session") "explain" (mad K "Session" "explain")
  m_Session_blame : Meth K (gad K "Session") "blame" (mad K "Session" "blame")
  m_Session_of_making : Meth K (gad K "Session") "of_making" (mad K "Session" "of_making")
  m_Session_of_asking : Meth K (gad K "Session") "of_asking" (mad K "Session" "of_asking")
  m_Session_answer : Meth K (gad K "Session") "answer" (mad K "Session" "answer")
  a_Session_made : NoAttr K (gad K "Session") "made"
  a_Session_branches : NoAttr K (gad K "Session") "branches"
  n_len : mg "len" = none
  n_list : mg "list" = none
  n_tuple : mg "tuple" = none
  n_set : mg "set" = none
  n_sorted : mg "sorted" = none
  n_max : mg "max" = none
  n_any : mg "any" = none
  n_all : mg "all" = none
  n_range : mg "range" = none
  n_enumerate : mg "enumerate" = none
  n_zip : mg "zip" = none
  i_MOST_BRANCHES : ∃ t, mg "MOST_BRANCHES" = some (.int (5) t)
  i_MOST_CHANGES : ∃ t, mg "MOST_CHANGES" = some (.int (12) t)
  i_MOST_LINES : ∃ t, mg "MOST_LINES" = some (.int (8) t)
  i_MOST_BYTES : ∃ t, mg "MOST_BYTES" = some (.int (12) t)
  i_LIMITS : ∃ t, mg "LIMITS" = some (.int (-1) t)
  i_NO_BRANCH : ∃ t, mg "NO_BRANCH" = some (.int (-2) t)
  i_NOT_THERE : ∃ t, mg "NOT_THERE" = some (.int (-3) t)
  i_DEPENDENCIES : ∃ t, mg "DEPENDENCIES" = some (.int (-4) t)
  i_CONFLICTS : ∃ t, mg "CONFLICTS" = some (.int (-5) t)
  i_NOTHING : ∃ t, mg "NOTHING" = some (.int (-6) t)
  i_TOO_MANY : ∃ t, mg "TOO_MANY" = some (.int (-8) t)
  i_VISIBLE : ∃ t, mg "VISIBLE" = some (.int (1) t)
  i_AWAY : ∃ t, mg "AWAY" = some (.int (2) t)
  g_START : mg "START" = some (.ref (gad K "START"))
  t_START : ∀ H : Hp, SqT K H (gad K "START") [.int (-1), .int (0)]
  g_END : mg "END" = some (.ref (gad K "END"))
  t_END : ∀ H : Hp, SqT K H (gad K "END") [.int (-2), .int (0)]
  g_NUMBERS : mg "NUMBERS" = some (.ref (gad K "NUMBERS"))
  t_NUMBERS : ∀ H : Hp, SqT K H (gad K "NUMBERS") [.int (1), .int (2), .int (1), .int (2), .int (2), .int (2), .int (1), .int (1), .int (1), .int (1), .int (2), .int (2), .int (3), .int (1)]
  g_WITH_LIST : mg "WITH_LIST" = some (.ref (gad K "WITH_LIST"))
  t_WITH_LIST : ∀ H : Hp, SqT K H (gad K "WITH_LIST") [.int (1), .int (2)]
  refx : PySem.LgRx.RefTxt K mg (gad K "Refused") (mad K "Refused" "__init__")
  F_Change_init : ∃ fd, FunD K "__init__" "Change.__init__" (defArgs (inClass (topS 3) 0)) (defBody (inClass (topS 3) 0)) (defScope (inClass (topS 3) 0)) [] [] (mad K "Change" "__init__") fd
  F_Change_chains : ∃ fd, FunD K "chains" "Change.chains" (defArgs (inClass (topS 3) 1)) (defBody (inClass (topS 3) 1)) (defScope (inClass (topS 3) 1)) [] [] (mad K "Change" "chains") fd
  F_Change_dependencies : ∃ fd, FunD K "dependencies" "Change.dependencies" (defArgs (inClass (topS 3) 2)) (defBody (inClass (topS 3) 2)) (defScope (inClass (topS 3) 2)) [] [] (mad K "Change" "dependencies") fd
  F_kept_table : ∃ fd, FunD K "kept_table" "kept_table" (defArgs (topS 4)) (defBody (topS 4)) (defScope (topS 4)) [] [] (gad K "kept_table") fd
  F_Difference_init : ∃ fd, FunD K "__init__" "Difference.__init__" (defArgs (inClass (topS 5) 0)) (defBody (inClass (topS 5) 0)) (defScope (inClass (topS 5) 0)) [] [] (mad K "Difference" "__init__") fd
  F_difference_of : ∃ fd, FunD K "difference_of" "difference_of" (defArgs (topS 6)) (defBody (topS 6)) (defScope (topS 6)) [] [] (gad K "difference_of") fd
  F_written_change : ∃ fd, FunD K "written_change" "written_change" (defArgs (topS 7)) (defBody (topS 7)) (defScope (topS 7)) [] [] (gad K "written_change") fd
  F_steps_of : ∃ fd, FunD K "steps_of" "steps_of" (defArgs (topS 9)) (defBody (topS 9)) (defScope (topS 9)) [] [] (gad K "steps_of") fd
  F_reached_from : ∃ fd, FunD K "reached_from" "reached_from" (defArgs (topS 10)) (defBody (topS 10)) (defScope (topS 10)) [] [] (gad K "reached_from") fd
  F_visible_of : ∃ fd, FunD K "visible_of" "visible_of" (defArgs (topS 11)) (defBody (topS 11)) (defScope (topS 11)) [] [] (gad K "visible_of") fd
  F_Order_init : ∃ fd, FunD K "__init__" "Order.__init__" (defArgs (inClass (topS 12) 0)) (defBody (inClass (topS 12) 0)) (defScope (inClass (topS 12) 0)) [] [] (mad K "Order" "__init__") fd
  F_Order_precedes : ∃ fd, FunD K "precedes" "Order.precedes" (defArgs (inClass (topS 12) 1)) (defBody (inClass (topS 12) 1)) (defScope (inClass (topS 12) 1)) [] [] (mad K "Order" "precedes") fd
  F_Order_next_of : ∃ fd, FunD K "next_of" "Order.next_of" (defArgs (inClass (topS 12) 2)) (defBody (inClass (topS 12) 2)) (defScope (inClass (topS 12) 2)) [] [] (mad K "Order" "next_of") fd
  F_Order_conflicts : ∃ fd, FunD K "conflicts" "Order.conflicts" (defArgs (inClass (topS 12) 3)) (defBody (inClass (topS 12) 3)) (defScope (inClass (topS 12) 3)) [] [] (mad K "Order" "conflicts") fd
  F_demand : ∃ fd, FunD K "demand" "demand" (defArgs (topS 30)) (defBody (topS 30)) (defScope (topS 30)) [] [] (gad K "demand") fd
  F_told_row : ∃ fd, FunD K "told_row" "told_row" (defArgs (topS 31)) (defBody (topS 31)) (defScope (topS 31)) [] [] (gad K "told_row") fd
  F_told_line : ∃ fd, FunD K "told_line" "told_line" (defArgs (topS 32)) (defBody (topS 32)) (defScope (topS 32)) [] [] (gad K "told_line") fd
  F_lines_in : ∃ fd, FunD K "lines_in" "lines_in" (defArgs (topS 33)) (defBody (topS 33)) (defScope (topS 33)) [] [] (gad K "lines_in") fd
  F_pairs_in : ∃ fd, FunD K "pairs_in" "pairs_in" (defArgs (topS 34)) (defBody (topS 34)) (defScope (topS 34)) [] [] (gad K "pairs_in") fd
  F_Session_init : ∃ fd, FunD K "__init__" "Session.__init__" (defArgs (inClass (topS 35) 0)) (defBody (inClass (topS 35) 0)) (defScope (inClass (topS 35) 0)) [] [] (mad K "Session" "__init__") fd
  F_Session_ask_branch : ∃ fd, FunD K "ask_branch" "Session.ask_branch" (defArgs (inClass (topS 35) 1)) (defBody (inClass (topS 35) 1)) (defScope (inClass (topS 35) 1)) [] [] (mad K "Session" "ask_branch") fd
  F_Session_ask_change : ∃ fd, FunD K "ask_change" "Session.ask_change" (defArgs (inClass (topS 35) 2)) (defBody (inClass (topS 35) 2)) (defScope (inClass (topS 35) 2)) [] [] (mad K "Session" "ask_change") fd
  F_Session_ask_room : ∃ fd, FunD K "ask_room" "Session.ask_room" (defArgs (inClass (topS 35) 3)) (defBody (inClass (topS 35) 3)) (defScope (inClass (topS 35) 3)) [] [] (mad K "Session" "ask_room") fd
  F_Session_order : ∃ fd, FunD K "order" "Session.order" (defArgs (inClass (topS 35) 4)) (defBody (inClass (topS 35) 4)) (defScope (inClass (topS 35) 4)) [] [] (mad K "Session" "order") fd
  F_Session_line_at : ∃ fd, FunD K "line_at" "Session.line_at" (defArgs (inClass (topS 35) 5)) (defBody (inClass (topS 35) 5)) (defScope (inClass (topS 35) 5)) [] [] (mad K "Session" "line_at") fd
  F_Session_add : ∃ fd, FunD K "add" "Session.add" (defArgs (inClass (topS 35) 6)) (defBody (inClass (topS 35) 6)) (defScope (inClass (topS 35) 6)) [] [] (mad K "Session" "add") fd
  F_Session_record : ∃ fd, FunD K "record" "Session.record" (defArgs (inClass (topS 35) 7)) (defBody (inClass (topS 35) 7)) (defScope (inClass (topS 35) 7)) [] [] (mad K "Session" "record") fd
  F_Session_required : ∃ fd, FunD K "required" "Session.required" (defArgs (inClass (topS 35) 8)) (defBody (inClass (topS 35) 8)) (defScope (inClass (topS 35) 8)) [] [] (mad K "Session" "required") fd
  F_Session_fork : ∃ fd, FunD K "fork" "Session.fork" (defArgs (inClass (topS 35) 9)) (defBody (inClass (topS 35) 9)) (defScope (inClass (topS 35) 9)) [] [] (mad K "Session" "fork") fd
  F_Session_write : ∃ fd, FunD K "write" "Session.write" (defArgs (inClass (topS 35) 10)) (defBody (inClass (topS 35) 10)) (defScope (inClass (topS 35) 10)) [] [] (mad K "Session" "write") fd
  F_Session_delete : ∃ fd, FunD K "delete" "Session.delete" (defArgs (inClass (topS 35) 11)) (defBody (inClass (topS 35) 11)) (defScope (inClass (topS 35) 11)) [] [] (mad K "Session" "delete") fd
  F_Session_apply : ∃ fd, FunD K "apply" "Session.apply" (defArgs (inClass (topS 35) 12)) (defBody (inClass (topS 35) 12)) (defScope (inClass (topS 35) 12)) [] [] (mad K "Session" "apply") fd
  F_Session_merge : ∃ fd, FunD K "merge" "Session.merge" (defArgs (inClass (topS 35) 13)) (defBody (inClass (topS 35) 13)) (defScope (inClass (topS 35) 13)) [] [] (mad K "Session" "merge") fd
  F_Session_revert : ∃ fd, FunD K "revert" "Session.revert" (defArgs (inClass (topS 35) 14)) (defBody (inClass (topS 35) 14)) (defScope (inClass (topS 35) 14)) [] [] (mad K "Session" "revert") fd
  F_Session_text_order : ∃ fd, FunD K "text_order" "Session.text_order" (defArgs (inClass (topS 35) 15)) (defBody (inClass (topS 35) 15)) (defScope (inClass (topS 35) 15)) [] [] (mad K "Session" "text_order") fd
  F_Session_show : ∃ fd, FunD K "show" "Session.show" (defArgs (inClass (topS 35) 16)) (defBody (inClass (topS 35) 16)) (defScope (inClass (topS 35) 16)) [] [] (mad K "Session" "show") fd
  F_Session_shown_lines : ∃ fd, FunD K "shown_lines" "Session.shown_lines" (defArgs (inClass (topS 35) 17)) (defBody (inClass (topS 35) 17)) (defScope (inClass (topS 35) 17)) [] [] (mad K "Session" "shown_lines") fd
  F_Session_change : ∃ fd, FunD K "change" "Session.change" (defArgs (inClass (topS 35) 18)) (defBody (inClass (topS 35) 18)) (defScope (inClass (topS 35) 18)) [] [] (mad K "Session" "change") fd
  F_Session_requirements : ∃ fd, FunD K "requirements" "Session.requirements" (defArgs (inClass (topS 35) 19)) (defBody (inClass (topS 35) 19)) (defScope (inClass (topS 35) 19)) [] [] (mad K "Session" "requirements") fd
  F_Session_apply_all : ∃ fd, FunD K "apply_all" "Session.apply_all" (defArgs (inClass (topS 35) 20)) (defBody (inClass (topS 35) 20)) (defScope (inClass (topS 35) 20)) [] [] (mad K "Session" "apply_all") fd
  F_Session_revert_all : ∃ fd, FunD K "revert_all" "Session.revert_all" (defArgs (inClass (topS 35) 21)) (defBody (inClass (topS 35) 21)) (defScope (inClass (topS 35) 21)) [] [] (mad K "Session" "revert_all") fd
  F_Session_explain : ∃ fd, FunD K "explain" "Session.explain" (defArgs (inClass (topS 35) 22)) (defBody (inClass (topS 35) 22)) (defScope (inClass (topS 35) 22)) [] [] (mad K "Session" "explain") fd
  F_Session_blame : ∃ fd, FunD K "blame" "Session.blame" (defArgs (inClass (topS 35) 23)) (defBody (inClass (topS 35) 23)) (defScope (inClass (topS 35) 23)) [] [] (mad K "Session" "blame") fd
  F_Session_of_making : ∃ fd, FunD K "of_making" "Session.of_making" (defArgs (inClass (topS 35) 24)) (defBody (inClass (topS 35) 24)) (defScope (inClass (topS 35) 24)) [] [] (mad K "Session" "of_making") fd
  F_Session_of_asking : ∃ fd, FunD K "of_asking" "Session.of_asking" (defArgs (inClass (topS 35) 25)) (defBody (inClass (topS 35) 25)) (defScope (inClass (topS 35) 25)) [] [] (mad K "Session" "of_asking") fd
  F_Session_answer : ∃ fd, FunD K "answer" "Session.answer" (defArgs (inClass (topS 35) 26)) (defBody (inClass (topS 35) 26)) (defScope (inClass (topS 35) 26)) [] [] (mad K "Session" "answer") fd
  F_answers : ∃ fd, FunD K "answers" "answers" (defArgs (topS 36)) (defBody (topS 36)) (defScope (topS 36)) [] [] (gad K "answers") fd
end Lg

-- ==== LgDer1 ====
set_option Elab.async false
set_option linter.all false
set_option maxRecDepth 100000
set_option maxHeartbeats 4000000
/-! LgDer1: readings of the defs, and that their text has them (printed by gen.py). -/
namespace Lg
open PySem PySem.Spec PyProof.Rows L2
section
variable {P : Program} {w : World} {K : PySem.W.Frag} {mg : Str → Option Value} {base : Heap}
abbrev s_Change_init : Stmt := inClass (topS 3) 0
abbrev N_Change_init : List Str := ["self", "number", "hunks", "deleted", "before", "lines", "after"]
abbrev p_Change_init : List Str := ["self", "number", "hunks", "deleted"]
theorem sc_Change_init : FnScope N_Change_init p_Change_init (defScope s_Change_init) := ⟨rfl, rfl, rfl, by decide +kernel, rfl, by decide +kernel, by decide +kernel⟩
def t_Change_init (K : PySem.W.Frag) (P : Program) (w : World) : TS :=
  (tSeq (sFld K (tVar 0) (tVar 1) "number")
    (tSeq (sFld K (tVar 0) (tVar 2) "hunks")
    (tSeq (sFld K (tVar 0) (tVar 3) "deleted")
    (tSeq (sFld K (tVar 0) (tLst tNil) "lines")
    (tFor (iList K (tVar 2)) (gTup K 3 (gCons (gName 4) (gCons (gName 5) (gCons (gName 6) gNil)))) (sFld K (tVar 0) (tOp rCat (tFld K (tVar 0) "lines") (tVar 5)) "lines"))))))
theorem der_Change_init (T : Txt K mg)  {f : Addr} {cdv : Value} {A : Around} {outer : List Env} {s : Shared} {H : Hp} {E : XK} (hr : Room 0 (A.deeper (envOfC "Change.__init__" (defScope s_Change_init) s.heap.objs.size f cdv))) :
    PSs (cxOf CX0 P w K mg base N_Change_init "Change.__init__" (defScope s_Change_init) f cdv A outer s H E).nox (defBody s_Change_init) (t_Change_init K P w) :=
  (pss_cons (ps_fld (pv 0) (pv 1) rfl)
      (pss_cons (ps_fld (pv 0) (pv 2) rfl)
      (pss_cons (ps_fld (pv 0) (pv 3) rfl)
      (pss_cons (ps_fld (pv 0) (pe_lst pa_nil) rfl)
      (pss_one (ps_for PassesOwn.never rfl (pi_list (pv 2)) (pg_tup rfl (pgs_cons (pg_name (i := 4) sc_Change_init.nd rfl (Or.inl rfl)) (pgs_cons (pg_name (i := 5) sc_Change_init.nd rfl (Or.inl rfl)) (pgs_cons (pg_name (i := 6) sc_Change_init.nd rfl (Or.inl rfl)) pgs_nil)))) (pss_one (ps_fld (pv 0) (pe_op op_cat (pe_fld (pv 0) rfl) (pv 5)) rfl))))))))
theorem ok_of_Change_init (T : Txt K mg)  {sp : Sp} (len : ∀ vs H Q E, sp vs H Q E → vs.length = 4)
    (h : ∀ vs H Q E, sp vs H Q E → t_Change_init K P w { nx := fun _ H' => Q .non H', rt := Q } (start N_Change_init vs) H) : DOk P w K mg base CX0 1 (mad K "Change" "__init__") p_Change_init sp :=
  dok_of T.F_Change_init sc_Change_init len (fun _ _ _ _ _ _ us hl => match us, hl with | [_, _, _, _], _ => rfl) fun f cdv A outer s H vs Q E hr q => ⟨_, (der_Change_init T  hr).nox, h vs H Q E q⟩
abbrev s_Change_chains : Stmt := inClass (topS 3) 1
abbrev N_Change_chains : List Str := ["self", "found", "at", "before", "lines", "after", "own", "number"]
abbrev p_Change_chains : List Str := ["self"]
theorem sc_Change_chains : FnScope N_Change_chains p_Change_chains (defScope s_Change_chains) := ⟨rfl, rfl, rfl, by decide +kernel, rfl, by decide +kernel, by decide +kernel⟩
def t_Change_chains (K : PySem.W.Frag) (P : Program) (w : World) : TS :=
  (tSeq (tAsg (tTup (tCons (tLst tNil) (tCons (tC (.int 0)) tNil))) (gTup K 2 (gCons (gName 1) (gCons (gName 2) gNil))))
    (tSeq (tFor (iList K (tFld K (tVar 0) "hunks")) (gTup K 3 (gCons (gName 3) (gCons (gName 4) (gCons (gName 5) gNil)))) (tSeq (tAsg (tLc (iRng1 (tCons (tCB (rLen K) (tCons (tVar 4) tNil)) tNil)) (gName 7) tYes (tTup (tCons (tFld K (tVar 0) "number") (tCons (tOp rAddI (tVar 2) (tVar 7)) tNil))) [7]) (gName 6))
    (tSeq (tDrop (tBM K "list" rAppend (tVar 1) (tCons (tOp rCat (tOp rCat (tLst (tCons (tVar 3) tNil)) (tVar 6)) (tLst (tCons (tVar 5) tNil))) tNil)))
    (tAug 2 (tCB (rLen K) (tCons (tVar 4) tNil)) (ipI fun i j => i + j)))))
    (tRet (tVar 1))))
theorem der_Change_chains (T : Txt K mg)  {f : Addr} {cdv : Value} {A : Around} {outer : List Env} {s : Shared} {H : Hp} {E : XK} (hr : Room 0 (A.deeper (envOfC "Change.chains" (defScope s_Change_chains) s.heap.objs.size f cdv))) :
    PSs (cxOf CX0 P w K mg base N_Change_chains "Change.chains" (defScope s_Change_chains) f cdv A outer s H E).nox (defBody s_Change_chains) (t_Change_chains K P w) :=
  (pss_cons (ps_asg (pe_tup (pa_cons (pe_lst pa_nil) (pa_cons pe_int pa_nil))) (pg_tup rfl (pgs_cons (pg_name (i := 1) sc_Change_chains.nd rfl (Or.inl rfl)) (pgs_cons (pg_name (i := 2) sc_Change_chains.nd rfl (Or.inr rfl)) pgs_nil))))
      (pss_cons (ps_for PassesOwn.never rfl (pi_list (pe_fld (pv 0) rfl)) (pg_tup rfl (pgs_cons (pg_name (i := 3) sc_Change_chains.nd rfl (Or.inl rfl)) (pgs_cons (pg_name (i := 4) sc_Change_chains.nd rfl (Or.inl rfl)) (pgs_cons (pg_name (i := 5) sc_Change_chains.nd rfl (Or.inl rfl)) pgs_nil)))) (pss_cons (ps_setLc (i := 6) (own := [("number", 7)]) rfl sc_Change_chains.nd rfl rfl (sw_true rfl rfl rfl (by decide +kernel)) (pi_range1 (by rfl) T.n_range (pa_cons (pe_callB c_len (by rfl) T.n_len PySem.boot_len (pa_cons (pv 4) pa_nil)) pa_nil)) (blkOk_by (own := [("number", 7)]) (N := N_Change_chains) (sc := defScope s_Change_chains) (by decide +kernel)) (fun _ _ _ _ _ => (pg_name (i := 7) sc_Change_chains.nd rfl (Or.inl rfl))) (fun _ _ _ _ _ => pts_nil) (fun _ _ _ _ _ => (pe_tup (pa_cons (pe_fld (pv 0) rfl) (pa_cons (pe_op op_add (pv 2) (pv 7)) pa_nil)))))
      (pss_cons (ps_expr (pe_bm PySem.F.plainAttrs_list PySem.F.slot_list_append PySem.F.type_list_append mt_append (pv 1) (pa_cons (pe_op op_cat (pe_op op_cat (pe_lst (pa_cons (pv 3) pa_nil)) (pv 6)) (pe_lst (pa_cons (pv 5) pa_nil))) pa_nil)))
      (pss_one (ps_aug (i := 2) sc_Change_chains.nd rfl (Or.inr rfl) (pe_callB c_len (by rfl) T.n_len PySem.boot_len (pa_cons (pv 4) pa_nil)) ip_add)))))
      (pss_one (ps_ret (pv 1)))))
theorem ok_of_Change_chains (T : Txt K mg)  {sp : Sp} (len : ∀ vs H Q E, sp vs H Q E → vs.length = 1)
    (h : ∀ vs H Q E, sp vs H Q E → t_Change_chains K P w { nx := fun _ H' => Q .non H', rt := Q } (start N_Change_chains vs) H) : DOk P w K mg base CX0 1 (mad K "Change" "chains") p_Change_chains sp :=
  dok_of T.F_Change_chains sc_Change_chains len (fun _ _ _ _ _ _ us hl => match us, hl with | [_], _ => rfl) fun f cdv A outer s H vs Q E hr q => ⟨_, (der_Change_chains T  hr).nox, h vs H Q E q⟩
abbrev s_Change_dependencies : Stmt := inClass (topS 3) 2
abbrev N_Change_dependencies : List Str := ["self", "places", "before", "lines", "after", "change", "number"]
abbrev p_Change_dependencies : List Str := ["self"]
theorem sc_Change_dependencies : FnScope N_Change_dependencies p_Change_dependencies (defScope s_Change_dependencies) := ⟨rfl, rfl, rfl, by decide +kernel, rfl, by decide +kernel, by decide +kernel⟩
def t_Change_dependencies (K : PySem.W.Frag) (P : Program) (w : World) : TS :=
  (tSeq (tAsg (tCB (rListOf K) (tCons (tFld K (tVar 0) "deleted") tNil)) (gName 1))
    (tSeq (tFor (iList K (tFld K (tVar 0) "hunks")) (gTup K 3 (gCons (gName 2) (gCons (gName 3) (gCons (gName 4) gNil)))) (tDrop (tBM K "list" rExtend (tVar 1) (tCons (tLst (tCons (tVar 2) (tCons (tVar 4) tNil))) tNil))))
    (tRet (tCB (rSortedSet w) (tCons (tCB (rSetI K w) (tCons (tLc (iList K (tVar 1)) (gTup K 2 (gCons (gName 5) (gCons (gName 6) gNil))) (tTest (tOp rGeI (tVar 5) (tC (.int 0)))) (tVar 5) [5, 6]) tNil)) tNil)))))
theorem der_Change_dependencies (T : Txt K mg)  {f : Addr} {cdv : Value} {A : Around} {outer : List Env} {s : Shared} {H : Hp} {E : XK} (hr : Room 0 (A.deeper (envOfC "Change.dependencies" (defScope s_Change_dependencies) s.heap.objs.size f cdv))) :
    PSs (cxOf CX0 P w K mg base N_Change_dependencies "Change.dependencies" (defScope s_Change_dependencies) f cdv A outer s H E).nox (defBody s_Change_dependencies) (t_Change_dependencies K P w) :=
  (pss_cons (ps_set (i := 1) sc_Change_dependencies.nd rfl (Or.inl rfl) (pe_callTy c_list (by rfl) T.n_list (by decide +kernel) (pa_cons (pe_fld (pv 0) rfl) pa_nil)))
      (pss_cons (ps_for PassesOwn.never rfl (pi_list (pe_fld (pv 0) rfl)) (pg_tup rfl (pgs_cons (pg_name (i := 2) sc_Change_dependencies.nd rfl (Or.inl rfl)) (pgs_cons (pg_name (i := 3) sc_Change_dependencies.nd rfl (Or.inl rfl)) (pgs_cons (pg_name (i := 4) sc_Change_dependencies.nd rfl (Or.inl rfl)) pgs_nil)))) (pss_one (ps_expr (pe_bm PySem.F.plainAttrs_list PySem.F.slot_list_extend PySem.F.type_list_extend mt_extend (pv 1) (pa_cons (pe_lst (pa_cons (pv 2) (pa_cons (pv 4) pa_nil))) pa_nil)))))
      (pss_one (ps_ret (pe_callB (cr_sortedSet rfl) (by rfl) T.n_sorted (by decide +kernel) (pa_cons (pe_callTy (c_setI rfl) (by rfl) T.n_set (by decide +kernel) (pa_cons (pe_lc (own := [("change", 5), ("number", 6)]) rfl sc_Change_dependencies.nd (pi_list (pv 1)) (blkOk_by (own := [("change", 5), ("number", 6)]) (N := N_Change_dependencies) (sc := defScope s_Change_dependencies) (by decide +kernel)) (fun _ _ _ _ _ => (pg_tup rfl (pgs_cons (pg_name (i := 5) sc_Change_dependencies.nd rfl (Or.inl rfl)) (pgs_cons (pg_name (i := 6) sc_Change_dependencies.nd rfl (Or.inl rfl)) pgs_nil)))) (fun _ _ _ _ _ => (pts_one (pt_cmpR op_ge (pv 5) pe_int (nomark _)))) (fun _ _ _ _ _ => (pv 5))) pa_nil)) pa_nil))))))
theorem ok_of_Change_dependencies (T : Txt K mg)  {sp : Sp} (len : ∀ vs H Q E, sp vs H Q E → vs.length = 1)
    (h : ∀ vs H Q E, sp vs H Q E → t_Change_dependencies K P w { nx := fun _ H' => Q .non H', rt := Q } (start N_Change_dependencies vs) H) : DOk P w K mg base CX0 1 (mad K "Change" "dependencies") p_Change_dependencies sp :=
  dok_of T.F_Change_dependencies sc_Change_dependencies len (fun _ _ _ _ _ _ us hl => match us, hl with | [_], _ => rfl) fun f cdv A outer s H vs Q E hr q => ⟨_, (der_Change_dependencies T  hr).nox, h vs H Q E q⟩
abbrev s_kept_table : Stmt := topS 4
abbrev N_kept_table : List Str := ["old", "new", "found", "i", "j", "turn"]
abbrev p_kept_table : List Str := ["old", "new"]
theorem sc_kept_table : FnScope N_kept_table p_kept_table (defScope s_kept_table) := ⟨rfl, rfl, rfl, by decide +kernel, rfl, by decide +kernel, by decide +kernel⟩
def t_kept_table (K : PySem.W.Frag) (P : Program) (w : World) : TS :=
  (tSeq (tAsg (tLc (iRng1 (tCons (tOp rAddI (tCB (rLen K) (tCons (tVar 0) tNil)) (tC (.int 1))) tNil)) (gName 5) tYes (tOp rRep (tLst (tCons (tC (.int 0)) tNil)) (tOp rAddI (tCB (rLen K) (tCons (tVar 1) tNil)) (tC (.int 1)))) [5]) (gName 2))
    (tSeq (tFor (iRng3 (tCons (tOp rSubI (tCB (rLen K) (tCons (tVar 0) tNil)) (tC (.int 1))) (tCons (tNeg (tC (.int 1))) (tCons (tNeg (tC (.int 1))) tNil)))) (gName 3) (tFor (iRng3 (tCons (tOp rSubI (tCB (rLen K) (tCons (tVar 1) tNil)) (tC (.int 1))) (tCons (tNeg (tC (.int 1))) (tCons (tNeg (tC (.int 1))) tNil)))) (gName 4) (tIfS (tTest (tOp (rEqD K) (tOp (rIxL K) (tVar 0) (tVar 3)) (tOp (rIxL K) (tVar 1) (tVar 4)))) (tAsg (tOp rAddI (tC (.int 1)) (tOp (rIxL K) (tOp (rIxL K) (tVar 2) (tOp rAddI (tVar 3) (tC (.int 1)))) (tOp rAddI (tVar 4) (tC (.int 1))))) (gSub (tOp (rIxL K) (tVar 2) (tVar 3)) (tVar 4) rSetL)) (tAsg (tCB rMaxI (tCons (tOp (rIxL K) (tOp (rIxL K) (tVar 2) (tOp rAddI (tVar 3) (tC (.int 1)))) (tVar 4)) (tCons (tOp (rIxL K) (tOp (rIxL K) (tVar 2) (tVar 3)) (tOp rAddI (tVar 4) (tC (.int 1)))) tNil))) (gSub (tOp (rIxL K) (tVar 2) (tVar 3)) (tVar 4) rSetL)))))
    (tRet (tVar 2))))
theorem der_kept_table (T : Txt K mg)  {f : Addr} {cdv : Value} {A : Around} {outer : List Env} {s : Shared} {H : Hp} {E : XK} (hr : Room 0 (A.deeper (envOfC "kept_table" (defScope s_kept_table) s.heap.objs.size f cdv))) :
    PSs (cxOf CX0 P w K mg base N_kept_table "kept_table" (defScope s_kept_table) f cdv A outer s H E).nox (defBody s_kept_table) (t_kept_table K P w) :=
  (pss_cons (ps_setLc (i := 2) (own := [("turn", 5)]) rfl sc_kept_table.nd rfl rfl (sw_true rfl rfl rfl (by decide +kernel)) (pi_range1 (by rfl) T.n_range (pa_cons (pe_op op_add (pe_callB c_len (by rfl) T.n_len PySem.boot_len (pa_cons (pv 0) pa_nil)) pe_int) pa_nil)) (blkOk_by (own := [("turn", 5)]) (N := N_kept_table) (sc := defScope s_kept_table) (by decide +kernel)) (fun _ _ _ _ _ => (pg_name (i := 5) sc_kept_table.nd rfl (Or.inl rfl))) (fun _ _ _ _ _ => pts_nil) (fun _ _ _ _ _ => (pe_op op_rep (pe_lst (pa_cons pe_int pa_nil)) (pe_op op_add (pe_callB c_len (by rfl) T.n_len PySem.boot_len (pa_cons (pv 1) pa_nil)) pe_int))))
      (pss_cons (ps_for PassesOwn.never rfl (pi_range3 (by rfl) T.n_range (pa_cons (pe_op op_sub (pe_callB c_len (by rfl) T.n_len PySem.boot_len (pa_cons (pv 0) pa_nil)) pe_int) (pa_cons (pe_un un_neg pe_int) (pa_cons (pe_un un_neg pe_int) pa_nil)))) (pg_name (i := 3) sc_kept_table.nd rfl (Or.inl rfl)) (pss_one (ps_for PassesOwn.never rfl (pi_range3 (by rfl) T.n_range (pa_cons (pe_op op_sub (pe_callB c_len (by rfl) T.n_len PySem.boot_len (pa_cons (pv 1) pa_nil)) pe_int) (pa_cons (pe_un un_neg pe_int) (pa_cons (pe_un un_neg pe_int) pa_nil)))) (pg_name (i := 4) sc_kept_table.nd rfl (Or.inl rfl)) (pss_one (ps_if (pt_cmpR (op_eqD hr.units) (pe_ix ix_list (pv 0) (pv 3) (fun _ _ => rfl)) (pe_ix ix_list (pv 1) (pv 4) (fun _ _ => rfl)) (nomark _)) (pss_one (ps_asg (pe_op op_add pe_int (pe_ix ix_list (pe_ix ix_list (pv 2) (pe_op op_add (pv 3) pe_int) (fun _ _ => rfl)) (pe_op op_add (pv 4) pe_int) (fun _ _ => rfl))) (pg_sub (pe_ix ix_list (pv 2) (pv 3) (fun _ _ => rfl)) (pv 4) set_list))) (pss_one (ps_asg (pe_callB (c_max rfl) (by rfl) T.n_max (by decide +kernel) (pa_cons (pe_ix ix_list (pe_ix ix_list (pv 2) (pe_op op_add (pv 3) pe_int) (fun _ _ => rfl)) (pv 4) (fun _ _ => rfl)) (pa_cons (pe_ix ix_list (pe_ix ix_list (pv 2) (pv 3) (fun _ _ => rfl)) (pe_op op_add (pv 4) pe_int) (fun _ _ => rfl)) pa_nil))) (pg_sub (pe_ix ix_list (pv 2) (pv 3) (fun _ _ => rfl)) (pv 4) set_list))))))))
      (pss_one (ps_ret (pv 2)))))
theorem ok_of_kept_table (T : Txt K mg)  {sp : Sp} (len : ∀ vs H Q E, sp vs H Q E → vs.length = 2)
    (h : ∀ vs H Q E, sp vs H Q E → t_kept_table K P w { nx := fun _ H' => Q .non H', rt := Q } (start N_kept_table vs) H) : DOk P w K mg base CX0 1 (gad K "kept_table") p_kept_table sp :=
  dok_of T.F_kept_table sc_kept_table len (fun _ _ _ _ _ _ us hl => match us, hl with | [_, _], _ => rfl) fun f cdv A outer s H vs Q E hr q => ⟨_, (der_kept_table T  hr).nox, h vs H Q E q⟩
abbrev s_Difference_init : Stmt := inClass (topS 5) 0
abbrev N_Difference_init : List Str := ["self", "many", "gap"]
abbrev p_Difference_init : List Str := ["self", "many"]
theorem sc_Difference_init : FnScope N_Difference_init p_Difference_init (defScope s_Difference_init) := ⟨rfl, rfl, rfl, by decide +kernel, rfl, by decide +kernel, by decide +kernel⟩
def t_Difference_init (K : PySem.W.Frag) (P : Program) (w : World) : TS :=
  (tSeq (sFld K (tVar 0) (tLst tNil) "deleted")
    (sFld K (tVar 0) (tLc (iRng1 (tCons (tOp rAddI (tVar 1) (tC (.int 1))) tNil)) (gName 2) tYes (tLst tNil) [2]) "inserted"))
theorem der_Difference_init (T : Txt K mg)  {f : Addr} {cdv : Value} {A : Around} {outer : List Env} {s : Shared} {H : Hp} {E : XK} (hr : Room 0 (A.deeper (envOfC "Difference.__init__" (defScope s_Difference_init) s.heap.objs.size f cdv))) :
    PSs (cxOf CX0 P w K mg base N_Difference_init "Difference.__init__" (defScope s_Difference_init) f cdv A outer s H E).nox (defBody s_Difference_init) (t_Difference_init K P w) :=
  (pss_cons (ps_fld (pv 0) (pe_lst pa_nil) rfl)
      (pss_one (ps_fld (pv 0) (pe_lc (own := [("gap", 2)]) rfl sc_Difference_init.nd (pi_range1 (by rfl) T.n_range (pa_cons (pe_op op_add (pv 1) pe_int) pa_nil)) (blkOk_by (own := [("gap", 2)]) (N := N_Difference_init) (sc := defScope s_Difference_init) (by decide +kernel)) (fun _ _ _ _ _ => (pg_name (i := 2) sc_Difference_init.nd rfl (Or.inl rfl))) (fun _ _ _ _ _ => pts_nil) (fun _ _ _ _ _ => (pe_lst pa_nil))) rfl)))
theorem ok_of_Difference_init (T : Txt K mg)  {sp : Sp} (len : ∀ vs H Q E, sp vs H Q E → vs.length = 2)
    (h : ∀ vs H Q E, sp vs H Q E → t_Difference_init K P w { nx := fun _ H' => Q .non H', rt := Q } (start N_Difference_init vs) H) : DOk P w K mg base CX0 1 (mad K "Difference" "__init__") p_Difference_init sp :=
  dok_of T.F_Difference_init sc_Difference_init len (fun _ _ _ _ _ _ us hl => match us, hl with | [_, _], _ => rfl) fun f cdv A outer s H vs Q E hr q => ⟨_, (der_Difference_init T  hr).nox, h vs H Q E q⟩
abbrev s_difference_of : Stmt := topS 6
abbrev N_difference_of : List Str := ["old", "new", "table", "found", "i", "j"]
abbrev p_difference_of : List Str := ["old", "new"]
theorem sc_difference_of : FnScope N_difference_of p_difference_of (defScope s_difference_of) := ⟨rfl, rfl, rfl, by decide +kernel, rfl, by decide +kernel, by decide +kernel⟩
def t_difference_of (K : PySem.W.Frag) (P : Program) (w : World) (sp_Difference_init : Sp) (sp_kept_table : Sp) : TS :=
  (tSeq (tPar 2 3 (tCons (tCall sp_kept_table [] E0 (tCons (tVar 0) (tCons (tVar 1) tNil))) (tCons (tMake (gad K "Difference") sp_Difference_init [] E0 (tCons (tCB (rLen K) (tCons (tVar 0) tNil)) tNil)) tNil)))
    (tSeq (tAsg (tTup (tCons (tC (.int 0)) (tCons (tC (.int 0)) tNil))) (gTup K 2 (gCons (gName 4) (gCons (gName 5) gNil))))
    (tSeq (tWhile (tOr (tTest (tOp rLtI (tVar 4) (tCB (rLen K) (tCons (tVar 0) tNil)))) (tTest (tOp rLtI (tVar 5) (tCB (rLen K) (tCons (tVar 1) tNil))))) (tIfS (tAnd (tTest (tOp rLtI (tVar 4) (tCB (rLen K) (tCons (tVar 0) tNil)))) (tAnd (tTest (tOp rLtI (tVar 5) (tCB (rLen K) (tCons (tVar 1) tNil)))) (tTest (tOp (rEqD K) (tOp (rIxL K) (tVar 0) (tVar 4)) (tOp (rIxL K) (tVar 1) (tVar 5)))))) (tPar 4 5 (tCons (tOp rAddI (tVar 4) (tC (.int 1))) (tCons (tOp rAddI (tVar 5) (tC (.int 1))) tNil))) (tIfS (tAnd (tTest (tOp rLtI (tVar 4) (tCB (rLen K) (tCons (tVar 0) tNil)))) (tOr (tTest (tOp rEq (tVar 5) (tCB (rLen K) (tCons (tVar 1) tNil)))) (tTest (tOp rGeI (tOp (rIxL K) (tOp (rIxL K) (tVar 2) (tOp rAddI (tVar 4) (tC (.int 1)))) (tVar 5)) (tOp (rIxL K) (tOp (rIxL K) (tVar 2) (tVar 4)) (tOp rAddI (tVar 5) (tC (.int 1)))))))) (tSeq (tDrop (tBM K "list" rAppend (tFld K (tVar 3) "deleted") (tCons (tVar 4) tNil)))
    (tAug 4 (tC (.int 1)) (ipI fun i j => i + j))) (tSeq (tDrop (tBM K "list" rAppend (tOp (rIxL K) (tFld K (tVar 3) "inserted") (tVar 4)) (tCons (tOp (rIxL K) (tVar 1) (tVar 5)) tNil)))
    (tAug 5 (tC (.int 1)) (ipI fun i j => i + j))))))
    (tRet (tVar 3)))))
theorem der_difference_of (T : Txt K mg) {sp_Difference_init : Sp} (G_Difference_init : DOk P w K mg base CX0 1 (mad K "Difference" "__init__") p_Difference_init sp_Difference_init) {sp_kept_table : Sp} (G_kept_table : DOk P w K mg base CX0 1 (gad K "kept_table") p_kept_table sp_kept_table) {f : Addr} {cdv : Value} {A : Around} {outer : List Env} {s : Shared} {H : Hp} {E : XK} (hr : Room 2 (A.deeper (envOfC "difference_of" (defScope s_difference_of) s.heap.objs.size f cdv))) :
    PSs (cxOf CX0 P w K mg base N_difference_of "difference_of" (defScope s_difference_of) f cdv A outer s H E).nox (defBody s_difference_of) (t_difference_of K P w sp_Difference_init sp_kept_table) :=
  (pss_cons (ps_par (i := 2) (j := 3) rfl sc_difference_of.nd rfl rfl (by decide) rfl rfl (by exact (pa_cons (pe_fcall G_kept_table (hr.mono (by decide)) T.g_kept_table pass0 (by exact (pa_cons (pv 0) (pa_cons (pv 1) pa_nil)))) (pa_cons (pe_mnew G_Difference_init T.k_Difference (hr.mono (by decide)) T.g_Difference pass0 (by exact (pa_cons (pe_callB c_len (by rfl) T.n_len PySem.boot_len (pa_cons (pv 0) pa_nil)) pa_nil))) pa_nil))) (by rfl))
      (pss_cons (ps_asg (pe_tup (pa_cons pe_int (pa_cons pe_int pa_nil))) (pg_tup rfl (pgs_cons (pg_name (i := 4) sc_difference_of.nd rfl (Or.inl rfl)) (pgs_cons (pg_name (i := 5) sc_difference_of.nd rfl (Or.inl rfl)) pgs_nil))))
      (pss_cons (ps_while PassesOwn.never (PW.pt (pw_or (pt_cmpR op_lt (pv 4) (pe_callB c_len (by rfl) T.n_len PySem.boot_len (pa_cons (pv 0) pa_nil)) (nomark _)) (pw_or1 (pt_cmpR op_lt (pv 5) (pe_callB c_len (by rfl) T.n_len PySem.boot_len (pa_cons (pv 1) pa_nil)) (nomark _))))) (pss_one (ps_if (PW.pt (pw_and (pt_cmpR op_lt (pv 4) (pe_callB c_len (by rfl) T.n_len PySem.boot_len (pa_cons (pv 0) pa_nil)) (nomark _)) (pw_and (pt_cmpR op_lt (pv 5) (pe_callB c_len (by rfl) T.n_len PySem.boot_len (pa_cons (pv 1) pa_nil)) (nomark _)) (pw_and1 (pt_cmpR (op_eqD hr.units) (pe_ix ix_list (pv 0) (pv 4) (fun _ _ => rfl)) (pe_ix ix_list (pv 1) (pv 5) (fun _ _ => rfl)) (nomark _)))))) (pss_one (ps_par (i := 4) (j := 5) rfl sc_difference_of.nd rfl rfl (by decide) rfl rfl (by exact (pa_cons (pe_op op_add (pv 4) pe_int) (pa_cons (pe_op op_add (pv 5) pe_int) pa_nil))) (by rfl))) (pss_one (ps_if (PW.pt (pw_and (pt_cmpR op_lt (pv 4) (pe_callB c_len (by rfl) T.n_len PySem.boot_len (pa_cons (pv 0) pa_nil)) (nomark _)) (pw_and1 (PW.pt (pw_or (pt_cmpR op_eq (pv 5) (pe_callB c_len (by rfl) T.n_len PySem.boot_len (pa_cons (pv 1) pa_nil)) (nomark _)) (pw_or1 (pt_cmpR op_ge (pe_ix ix_list (pe_ix ix_list (pv 2) (pe_op op_add (pv 4) pe_int) (fun _ _ => rfl)) (pv 5) (fun _ _ => rfl)) (pe_ix ix_list (pe_ix ix_list (pv 2) (pv 4) (fun _ _ => rfl)) (pe_op op_add (pv 5) pe_int) (fun _ _ => rfl)) (nomark _)))))))) (pss_cons (ps_expr (pe_bm PySem.F.plainAttrs_list PySem.F.slot_list_append PySem.F.type_list_append mt_append (pe_fld (pv 3) rfl) (pa_cons (pv 4) pa_nil)))
      (pss_one (ps_aug (i := 4) sc_difference_of.nd rfl (Or.inl rfl) pe_int ip_add))) (pss_cons (ps_expr (pe_bm PySem.F.plainAttrs_list PySem.F.slot_list_append PySem.F.type_list_append mt_append (pe_ix ix_list (pe_fld (pv 3) rfl) (pv 4) (fun _ _ => rfl)) (pa_cons (pe_ix ix_list (pv 1) (pv 5) (fun _ _ => rfl)) pa_nil)))
      (pss_one (ps_aug (i := 5) sc_difference_of.nd rfl (Or.inl rfl) pe_int ip_add))))))))
      (pss_one (ps_ret (pv 3))))))
theorem ok_of_difference_of (T : Txt K mg) {sp_Difference_init : Sp} (G_Difference_init : DOk P w K mg base CX0 1 (mad K "Difference" "__init__") p_Difference_init sp_Difference_init) {sp_kept_table : Sp} (G_kept_table : DOk P w K mg base CX0 1 (gad K "kept_table") p_kept_table sp_kept_table) {sp : Sp} (len : ∀ vs H Q E, sp vs H Q E → vs.length = 2)
    (h : ∀ vs H Q E, sp vs H Q E → t_difference_of K P w sp_Difference_init sp_kept_table { nx := fun _ H' => Q .non H', rt := Q } (start N_difference_of vs) H) : DOk P w K mg base CX0 3 (gad K "difference_of") p_difference_of sp :=
  dok_of T.F_difference_of sc_difference_of len (fun _ _ _ _ _ _ us hl => match us, hl with | [_, _], _ => rfl) fun f cdv A outer s H vs Q E hr q => ⟨_, (der_difference_of T G_Difference_init G_kept_table hr).nox, h vs H Q E q⟩
abbrev s_written_change : Stmt := topS 7
abbrev N_written_change : List Str := ["number", "places", "old", "new", "found", "ends", "hunks", "gap", "lines", "at"]
abbrev p_written_change : List Str := ["number", "places", "old", "new"]
theorem sc_written_change : FnScope N_written_change p_written_change (defScope s_written_change) := ⟨rfl, rfl, rfl, by decide +kernel, rfl, by decide +kernel, by decide +kernel⟩
def t_written_change (K : PySem.W.Frag) (P : Program) (w : World) (sp_difference_of : Sp) (sp_Change_init : Sp) : TS :=
  (tSeq (tPar3 4 5 6 (tCons (tCall sp_difference_of [] E0 (tCons (tVar 2) (tCons (tVar 3) tNil))) (tCons (tOp rCat (tOp rCat (tLst (tCons (tC (.ref (gad K "START"))) tNil)) (tVar 1)) (tLst (tCons (tC (.ref (gad K "END"))) tNil))) (tCons (tLst tNil) tNil))))
    (tSeq (tFor (iEnum K (tCons (tFld K (tVar 4) "inserted") tNil)) (gTup K 2 (gCons (gName 7) (gCons (gName 8) gNil))) (tIfS (tTest (tOp (rNeD K) (tVar 8) (tLst tNil))) (tDrop (tBM K "list" rAppend (tVar 6) (tCons (tTup (tCons (tOp (rIxL K) (tVar 5) (tVar 7)) (tCons (tVar 8) (tCons (tOp (rIxL K) (tVar 5) (tOp rAddI (tVar 7) (tC (.int 1)))) tNil)))) tNil))) tNext))
    (tRet (tMake (gad K "Change") sp_Change_init [] E0 (tCons (tVar 0) (tCons (tVar 6) (tCons (tLc (iList K (tFld K (tVar 4) "deleted")) (gName 9) tYes (tOp (rIxL K) (tVar 1) (tVar 9)) [9]) tNil)))))))
theorem der_written_change (T : Txt K mg) {sp_difference_of : Sp} (G_difference_of : DOk P w K mg base CX0 3 (gad K "difference_of") p_difference_of sp_difference_of) {sp_Change_init : Sp} (G_Change_init : DOk P w K mg base CX0 1 (mad K "Change" "__init__") p_Change_init sp_Change_init) {f : Addr} {cdv : Value} {A : Around} {outer : List Env} {s : Shared} {H : Hp} {E : XK} (hr : Room 3 (A.deeper (envOfC "written_change" (defScope s_written_change) s.heap.objs.size f cdv))) :
    PSs (cxOf CX0 P w K mg base N_written_change "written_change" (defScope s_written_change) f cdv A outer s H E).nox (defBody s_written_change) (t_written_change K P w sp_difference_of sp_Change_init) :=
  (pss_cons (ps_par3 (i := 4) (j := 5) (l := 6) rfl sc_written_change.nd rfl rfl rfl (by decide) (by decide) (by decide) rfl rfl rfl (by exact (pa_cons (pe_fcall G_difference_of (hr.mono (by decide)) T.g_difference_of pass0 (by exact (pa_cons (pv 2) (pa_cons (pv 3) pa_nil)))) (pa_cons (pe_op op_cat (pe_op op_cat (pe_lst (pa_cons (pe_glob rfl T.g_START rfl) pa_nil)) (pv 1)) (pe_lst (pa_cons (pe_glob rfl T.g_END rfl) pa_nil))) (pa_cons (pe_lst pa_nil) pa_nil)))) (by rfl))
      (pss_cons (ps_for PassesOwn.never rfl (pi_enum (by rfl) T.n_enumerate (pa_cons (pe_fld (pv 4) rfl) pa_nil)) (pg_tup rfl (pgs_cons (pg_name (i := 7) sc_written_change.nd rfl (Or.inl rfl)) (pgs_cons (pg_name (i := 8) sc_written_change.nd rfl (Or.inl rfl)) pgs_nil))) (pss_one (ps_if (pt_cmpR (op_neD hr.units) (pv 8) (pe_lst pa_nil) (nomark _)) (pss_one (ps_expr (pe_bm PySem.F.plainAttrs_list PySem.F.slot_list_append PySem.F.type_list_append mt_append (pv 6) (pa_cons (pe_tup (pa_cons (pe_ix ix_list (pv 5) (pv 7) (fun _ _ => rfl)) (pa_cons (pv 8) (pa_cons (pe_ix ix_list (pv 5) (pe_op op_add (pv 7) pe_int) (fun _ _ => rfl)) pa_nil)))) pa_nil)))) pss_nil)))
      (pss_one (ps_ret (pe_mnew G_Change_init T.k_Change (hr.mono (by decide)) T.g_Change pass0 (by exact (pa_cons (pv 0) (pa_cons (pv 6) (pa_cons (pe_lc (own := [("at", 9)]) rfl sc_written_change.nd (pi_list (pe_fld (pv 4) rfl)) (blkOk_by (own := [("at", 9)]) (N := N_written_change) (sc := defScope s_written_change) (by decide +kernel)) (fun _ _ _ _ _ => (pg_name (i := 9) sc_written_change.nd rfl (Or.inl rfl))) (fun _ _ _ _ _ => pts_nil) (fun _ _ _ _ _ => (pe_ix ix_list (pv 1) (pv 9) (fun _ _ => rfl)))) pa_nil)))))))))
theorem ok_of_written_change (T : Txt K mg) {sp_difference_of : Sp} (G_difference_of : DOk P w K mg base CX0 3 (gad K "difference_of") p_difference_of sp_difference_of) {sp_Change_init : Sp} (G_Change_init : DOk P w K mg base CX0 1 (mad K "Change" "__init__") p_Change_init sp_Change_init) {sp : Sp} (len : ∀ vs H Q E, sp vs H Q E → vs.length = 4)
    (h : ∀ vs H Q E, sp vs H Q E → t_written_change K P w sp_difference_of sp_Change_init { nx := fun _ H' => Q .non H', rt := Q } (start N_written_change vs) H) : DOk P w K mg base CX0 4 (gad K "written_change") p_written_change sp :=
  dok_of T.F_written_change sc_written_change len (fun _ _ _ _ _ _ us hl => match us, hl with | [_, _, _, _], _ => rfl) fun f cdv A outer s H vs Q E hr q => ⟨_, (der_written_change T G_difference_of G_Change_init hr).nox, h vs H Q E q⟩
end
end Lg

-- ==== LgDer2 ====
set_option Elab.async false
set_option linter.all false
set_option maxRecDepth 100000
set_option maxHeartbeats 4000000
/-! LgDer2: readings of the defs, and that their text has them (printed by gen.py). -/
namespace Lg
open PySem PySem.Spec PyProof.Rows L2
section
variable {P : Program} {w : World} {K : PySem.W.Frag} {mg : Str → Option Value} {base : Heap}
abbrev s_steps_of : Stmt := topS 9
abbrev N_steps_of : List Str := ["changes", "found", "change", "chain", "one", "other"]
abbrev p_steps_of : List Str := ["changes"]
theorem sc_steps_of : FnScope N_steps_of p_steps_of (defScope s_steps_of) := ⟨rfl, rfl, rfl, by decide +kernel, rfl, by decide +kernel, by decide +kernel⟩
def t_steps_of (K : PySem.W.Frag) (P : Program) (w : World) (sp_Change_chains : Sp) : TS :=
  (tSeq (tAsg (tXNew P w) (gName 1))
    (tSeq (tFor (iList K (tVar 0)) (gName 2) (tFor (iList K (tMeth (gad K "Change") "chains" sp_Change_chains [] E0 (tVar 2) tNil)) (gName 3) (tFor (iZip K (tCons (tVar 3) (tCons (tSl (rSlL K) (tVar 3) (tPart (tC (.int 1))) tNoPart) tNil))) (gTup K 2 (gCons (gName 4) (gCons (gName 5) gNil))) (sXPut K P w (tVar 1) (tVar 4) (tOp rCat (tXGet2 K P w (tVar 1) (tVar 4) (tLst tNil)) (tLst (tCons (tVar 5) tNil)))))))
    (tRet (tVar 1))))
theorem der_steps_of (T : Txt K mg) {sp_Change_chains : Sp} (G_Change_chains : DOk P w K mg base CX0 1 (mad K "Change" "chains") p_Change_chains sp_Change_chains) {f : Addr} {cdv : Value} {A : Around} {outer : List Env} {s : Shared} {H : Hp} {E : XK} (hr : Room 1 (A.deeper (envOfC "steps_of" (defScope s_steps_of) s.heap.objs.size f cdv))) :
    PSs (cxOf CX0 P w K mg base N_steps_of "steps_of" (defScope s_steps_of) f cdv A outer s H E).nox (defBody s_steps_of) (t_steps_of K P w sp_Change_chains) :=
  (pss_cons (ps_set (i := 1) sc_steps_of.nd rfl (Or.inl rfl) pe_xnew)
      (pss_cons (ps_for PassesOwn.never rfl (pi_list (pv 0)) (pg_name (i := 2) sc_steps_of.nd rfl (Or.inl rfl)) (pss_one (ps_for PassesOwn.never rfl (pi_list (pe_mcall0 G_Change_chains (hr.mono (by decide)) T.cl_Change T.m_Change_chains pass0 (pv 2))) (pg_name (i := 3) sc_steps_of.nd rfl (Or.inl rfl)) (pss_one (ps_for PassesOwn.never rfl (pi_zip (by rfl) T.n_zip (pa_cons (pv 3) (pa_cons (pe_slice sl_list (pv 3) (po_some pe_int) po_none) pa_nil))) (pg_tup rfl (pgs_cons (pg_name (i := 4) sc_steps_of.nd rfl (Or.inl rfl)) (pgs_cons (pg_name (i := 5) sc_steps_of.nd rfl (Or.inl rfl)) pgs_nil))) (pss_one (ps_xput (hu_of hr) (pv 1) (pv 4) (pe_op op_cat (pe_xget2 (hu_of hr) (pv 1) (pv 4) (pe_lst pa_nil) ⟨by rfl, by rfl, by rfl, by rfl⟩) (pe_lst (pa_cons (pv 5) pa_nil))) rfl)))))))
      (pss_one (ps_ret (pv 1)))))
theorem ok_of_steps_of (T : Txt K mg) {sp_Change_chains : Sp} (G_Change_chains : DOk P w K mg base CX0 1 (mad K "Change" "chains") p_Change_chains sp_Change_chains) {sp : Sp} (len : ∀ vs H Q E, sp vs H Q E → vs.length = 1)
    (h : ∀ vs H Q E, sp vs H Q E → t_steps_of K P w sp_Change_chains { nx := fun _ H' => Q .non H', rt := Q } (start N_steps_of vs) H) : DOk P w K mg base CX0 2 (gad K "steps_of") p_steps_of sp :=
  dok_of T.F_steps_of sc_steps_of len (fun _ _ _ _ _ _ us hl => match us, hl with | [_], _ => rfl) fun f cdv A outer s H vs Q E hr q => ⟨_, (der_steps_of T G_Change_chains hr).nox, h vs H Q E q⟩
abbrev s_reached_from : Stmt := topS 10
abbrev N_reached_from : List Str := ["steps", "position", "found", "waiting", "other"]
abbrev p_reached_from : List Str := ["steps", "position"]
theorem sc_reached_from : FnScope N_reached_from p_reached_from (defScope s_reached_from) := ⟨rfl, rfl, rfl, by decide +kernel, rfl, by decide +kernel, by decide +kernel⟩
def t_reached_from (K : PySem.W.Frag) (P : Program) (w : World) : TS :=
  (tSeq (tPar 2 3 (tCons (tXNew P w) (tCons (tCB (rListOf K) (tCons (tXGet2 K P w (tVar 0) (tVar 1) (tLst tNil)) tNil)) tNil)))
    (tSeq (tWhile (tTest (tOp (rNeD K) (tVar 3) (tLst tNil))) (tSeq (tAsg (tBM0 K "list" rPop (tVar 3)) (gName 4))
    (tIfS (tB (tXNotIn K P w (tVar 4) (tVar 2))) (tSeq (sXPut K P w (tVar 2) (tVar 4) (tC (.bl true)))
    (tDrop (tBM K "list" rExtend (tVar 3) (tCons (tXGet2 K P w (tVar 0) (tVar 4) (tLst tNil)) tNil)))) tNext)))
    (tRet (tVar 2))))
theorem der_reached_from (T : Txt K mg)  {f : Addr} {cdv : Value} {A : Around} {outer : List Env} {s : Shared} {H : Hp} {E : XK} (hr : Room 0 (A.deeper (envOfC "reached_from" (defScope s_reached_from) s.heap.objs.size f cdv))) :
    PSs (cxOf CX0 P w K mg base N_reached_from "reached_from" (defScope s_reached_from) f cdv A outer s H E).nox (defBody s_reached_from) (t_reached_from K P w) :=
  (pss_cons (ps_par (i := 2) (j := 3) rfl sc_reached_from.nd rfl rfl (by decide) rfl rfl (by exact (pa_cons pe_xnew (pa_cons (pe_callTy c_list (by rfl) T.n_list (by decide +kernel) (pa_cons (pe_xget2 (hu_of hr) (pv 0) (pv 1) (pe_lst pa_nil) ⟨by rfl, by rfl, by rfl, by rfl⟩) pa_nil)) pa_nil))) (by rfl))
      (pss_cons (ps_while PassesOwn.never (pt_cmpR (op_neD hr.units) (pv 3) (pe_lst pa_nil) (nomark _)) (pss_cons (ps_set (i := 4) sc_reached_from.nd rfl (Or.inl rfl) (pe_bm0 PySem.F.plainAttrs_list PySem.F.slot_list_pop PySem.F.type_list_pop mt_pop (pv 3)))
      (pss_one (ps_if (pt_cmp (pc_xnotin (hu_of hr) (pv 4) (pv 2)) rfl) (pss_cons (ps_xput (hu_of hr) (pv 2) (pv 4) pe_bl rfl)
      (pss_one (ps_expr (pe_bm PySem.F.plainAttrs_list PySem.F.slot_list_extend PySem.F.type_list_extend mt_extend (pv 3) (pa_cons (pe_xget2 (hu_of hr) (pv 0) (pv 4) (pe_lst pa_nil) ⟨by rfl, by rfl, by rfl, by rfl⟩) pa_nil))))) pss_nil))))
      (pss_one (ps_ret (pv 2)))))
theorem ok_of_reached_from (T : Txt K mg)  {sp : Sp} (len : ∀ vs H Q E, sp vs H Q E → vs.length = 2)
    (h : ∀ vs H Q E, sp vs H Q E → t_reached_from K P w { nx := fun _ H' => Q .non H', rt := Q } (start N_reached_from vs) H) : DOk P w K mg base CX0 1 (gad K "reached_from") p_reached_from sp :=
  dok_of T.F_reached_from sc_reached_from len (fun _ _ _ _ _ _ us hl => match us, hl with | [_, _], _ => rfl) fun f cdv A outer s H vs Q E hr q => ⟨_, (der_reached_from T  hr).nox, h vs H Q E q⟩
abbrev s_visible_of : Stmt := topS 11
abbrev N_visible_of : List Str := ["changes", "deleted", "change", "found", "position", "number"]
abbrev p_visible_of : List Str := ["changes"]
theorem sc_visible_of : FnScope N_visible_of p_visible_of (defScope s_visible_of) := ⟨rfl, rfl, rfl, by decide +kernel, rfl, by decide +kernel, by decide +kernel⟩
def t_visible_of (K : PySem.W.Frag) (P : Program) (w : World) : TS :=
  (tSeq (tAsg (tXNew P w) (gName 1))
    (tSeq (tFor (iList K (tVar 0)) (gName 2) (tFor (iList K (tFld K (tVar 2) "deleted")) (gName 4) (sXPut K P w (tVar 1) (tVar 4) (tC (.bl true)))))
    (tSeq (tAsg (tLst tNil) (gName 3))
    (tSeq (tFor (iList K (tVar 0)) (gName 2) (tFor (iRng1 (tCons (tCB (rLen K) (tCons (tFld K (tVar 2) "lines") tNil)) tNil)) (gName 5) (tIfS (tB (tXNotIn K P w (tTup (tCons (tFld K (tVar 2) "number") (tCons (tVar 5) tNil))) (tVar 1))) (tDrop (tBM K "list" rAppend (tVar 3) (tCons (tTup (tCons (tFld K (tVar 2) "number") (tCons (tVar 5) tNil))) tNil))) tNext)))
    (tRet (tCB (rSortedPO K) (tCons (tVar 3) tNil)))))))
theorem der_visible_of (T : Txt K mg)  {f : Addr} {cdv : Value} {A : Around} {outer : List Env} {s : Shared} {H : Hp} {E : XK} (hr : Room 0 (A.deeper (envOfC "visible_of" (defScope s_visible_of) s.heap.objs.size f cdv))) :
    PSs (cxOf CX0 P w K mg base N_visible_of "visible_of" (defScope s_visible_of) f cdv A outer s H E).nox (defBody s_visible_of) (t_visible_of K P w) :=
  (pss_cons (ps_set (i := 1) sc_visible_of.nd rfl (Or.inl rfl) pe_xnew)
      (pss_cons (ps_for PassesOwn.never rfl (pi_list (pv 0)) (pg_name (i := 2) sc_visible_of.nd rfl (Or.inl rfl)) (pss_one (ps_for PassesOwn.never rfl (pi_list (pe_fld (pv 2) rfl)) (pg_name (i := 4) sc_visible_of.nd rfl (Or.inl rfl)) (pss_one (ps_xput (hu_of hr) (pv 1) (pv 4) pe_bl rfl)))))
      (pss_cons (ps_set (i := 3) sc_visible_of.nd rfl (Or.inl rfl) (pe_lst pa_nil))
      (pss_cons (ps_for PassesOwn.never rfl (pi_list (pv 0)) (pg_name (i := 2) sc_visible_of.nd rfl (Or.inl rfl)) (pss_one (ps_for PassesOwn.never rfl (pi_range1 (by rfl) T.n_range (pa_cons (pe_callB c_len (by rfl) T.n_len PySem.boot_len (pa_cons (pe_fld (pv 2) rfl) pa_nil)) pa_nil)) (pg_name (i := 5) sc_visible_of.nd rfl (Or.inl rfl)) (pss_one (ps_if (pt_cmp (pc_xnotin (hu_of hr) (pe_tup (pa_cons (pe_fld (pv 2) rfl) (pa_cons (pv 5) pa_nil))) (pv 1)) rfl) (pss_one (ps_expr (pe_bm PySem.F.plainAttrs_list PySem.F.slot_list_append PySem.F.type_list_append mt_append (pv 3) (pa_cons (pe_tup (pa_cons (pe_fld (pv 2) rfl) (pa_cons (pv 5) pa_nil))) pa_nil)))) pss_nil)))))
      (pss_one (ps_ret (pe_callB cr_sortedPO (by rfl) T.n_sorted (by decide +kernel) (pa_cons (pv 3) pa_nil))))))))
theorem ok_of_visible_of (T : Txt K mg)  {sp : Sp} (len : ∀ vs H Q E, sp vs H Q E → vs.length = 1)
    (h : ∀ vs H Q E, sp vs H Q E → t_visible_of K P w { nx := fun _ H' => Q .non H', rt := Q } (start N_visible_of vs) H) : DOk P w K mg base CX0 1 (gad K "visible_of") p_visible_of sp :=
  dok_of T.F_visible_of sc_visible_of len (fun _ _ _ _ _ _ us hl => match us, hl with | [_], _ => rfl) fun f cdv A outer s H vs Q E hr q => ⟨_, (der_visible_of T  hr).nox, h vs H Q E q⟩
abbrev s_Order_precedes : Stmt := inClass (topS 12) 1
abbrev N_Order_precedes : List Str := ["self", "one", "other"]
abbrev p_Order_precedes : List Str := ["self", "one", "other"]
theorem sc_Order_precedes : FnScope N_Order_precedes p_Order_precedes (defScope s_Order_precedes) := ⟨rfl, rfl, rfl, by decide +kernel, rfl, by decide +kernel, by decide +kernel⟩
def t_Order_precedes (K : PySem.W.Frag) (P : Program) (w : World) : TS :=
  (tRet (tXIn K P w (tVar 2) (tXGet K P w (tFld K (tVar 0) "reached") (tVar 1))))
theorem der_Order_precedes (T : Txt K mg)  {f : Addr} {cdv : Value} {A : Around} {outer : List Env} {s : Shared} {H : Hp} {E : XK} (hr : Room 0 (A.deeper (envOfC "Order.precedes" (defScope s_Order_precedes) s.heap.objs.size f cdv))) :
    PSs (cxOf CX0 P w K mg base N_Order_precedes "Order.precedes" (defScope s_Order_precedes) f cdv A outer s H E).nox (defBody s_Order_precedes) (t_Order_precedes K P w) :=
  (pss_one (ps_ret (pe_cmp (pc_xin (hu_of hr) (pv 2) (pe_xget (hu_of hr) (pe_fld (pv 0) rfl) (pv 1) (fun _ _ => rfl))) rfl)))
theorem ok_of_Order_precedes (T : Txt K mg)  {sp : Sp} (len : ∀ vs H Q E, sp vs H Q E → vs.length = 3)
    (h : ∀ vs H Q E, sp vs H Q E → t_Order_precedes K P w { nx := fun _ H' => Q .non H', rt := Q } (start N_Order_precedes vs) H) : DOk P w K mg base CX0 1 (mad K "Order" "precedes") p_Order_precedes sp :=
  dok_of T.F_Order_precedes sc_Order_precedes len (fun _ _ _ _ _ _ us hl => match us, hl with | [_, _, _], _ => rfl) fun f cdv A outer s H vs Q E hr q => ⟨_, (der_Order_precedes T  hr).nox, h vs H Q E q⟩
abbrev s_Order_next_of : Stmt := inClass (topS 12) 2
abbrev N_Order_next_of : List Str := ["self", "left", "position", "other"]
abbrev p_Order_next_of : List Str := ["self", "left"]
theorem sc_Order_next_of : FnScope N_Order_next_of p_Order_next_of (defScope s_Order_next_of) := ⟨rfl, rfl, rfl, by decide +kernel, rfl, by decide +kernel, by decide +kernel⟩
def t_Order_next_of (K : PySem.W.Frag) (P : Program) (w : World) (sp_Order_precedes : Sp) : TS :=
  (tSeq (tFor (iList K (tVar 1)) (gName 2) (tIfS (tNot (tB (tCB (rAny K) (tCons (tLc (iList K (tVar 1)) (gName 3) (tTest (tOp (rNeD K) (tVar 3) (tVar 2))) (tMeth (gad K "Order") "precedes" sp_Order_precedes [] E0 (tVar 0) (tCons (tVar 3) (tCons (tVar 2) tNil))) [3]) tNil)))) (tRet (tVar 2)) tNext))
    (tRet (tOp (rIxL K) (tVar 1) (tC (.int 0)))))
theorem der_Order_next_of (T : Txt K mg) {sp_Order_precedes : Sp} (G_Order_precedes : DOk P w K mg base CX0 1 (mad K "Order" "precedes") p_Order_precedes sp_Order_precedes) {f : Addr} {cdv : Value} {A : Around} {outer : List Env} {s : Shared} {H : Hp} {E : XK} (hr : Room 1 (A.deeper (envOfC "Order.next_of" (defScope s_Order_next_of) s.heap.objs.size f cdv))) :
    PSs (cxOf CX0 P w K mg base N_Order_next_of "Order.next_of" (defScope s_Order_next_of) f cdv A outer s H E).nox (defBody s_Order_next_of) (t_Order_next_of K P w sp_Order_precedes) :=
  (pss_cons (ps_for PassesOwn.never rfl (pi_list (pv 1)) (pg_name (i := 2) sc_Order_next_of.nd rfl (Or.inr rfl)) (pss_one (ps_if (pt_not (pt_val (pe_callB (cr_any rfl) (by rfl) T.n_any (by decide +kernel) (pa_cons (pe_lc (own := [("other", 3)]) rfl sc_Order_next_of.nd (pi_list (pv 1)) (blkOk_by (own := [("other", 3)]) (N := N_Order_next_of) (sc := defScope s_Order_next_of) (by decide +kernel)) (fun _ _ _ _ _ => (pg_name (i := 3) sc_Order_next_of.nd rfl (Or.inl rfl))) (fun _ _ _ _ _ => (pts_one (pt_cmpR (op_neD hr.units) (pv 3) (pv 2) (nomark _)))) (fun _ _ _ _ _ => (pe_mcall G_Order_precedes (hr.mono (by decide)) T.cl_Order T.m_Order_precedes pass0 (pv 0) (by exact (pa_cons (pv 3) (pa_cons (pv 2) pa_nil)))))) pa_nil)))) (pss_one (ps_ret (pv 2))) pss_nil)))
      (pss_one (ps_ret (pe_ix ix_list (pv 1) pe_int (fun _ _ => rfl)))))
theorem ok_of_Order_next_of (T : Txt K mg) {sp_Order_precedes : Sp} (G_Order_precedes : DOk P w K mg base CX0 1 (mad K "Order" "precedes") p_Order_precedes sp_Order_precedes) {sp : Sp} (len : ∀ vs H Q E, sp vs H Q E → vs.length = 2)
    (h : ∀ vs H Q E, sp vs H Q E → t_Order_next_of K P w sp_Order_precedes { nx := fun _ H' => Q .non H', rt := Q } (start N_Order_next_of vs) H) : DOk P w K mg base CX0 2 (mad K "Order" "next_of") p_Order_next_of sp :=
  dok_of T.F_Order_next_of sc_Order_next_of len (fun _ _ _ _ _ _ us hl => match us, hl with | [_, _], _ => rfl) fun f cdv A outer s H vs Q E hr q => ⟨_, (der_Order_next_of T G_Order_precedes hr).nox, h vs H Q E q⟩
abbrev s_Order_conflicts : Stmt := inClass (topS 12) 3
abbrev N_Order_conflicts : List Str := ["self", "found", "at", "one", "other"]
abbrev p_Order_conflicts : List Str := ["self"]
theorem sc_Order_conflicts : FnScope N_Order_conflicts p_Order_conflicts (defScope s_Order_conflicts) := ⟨rfl, rfl, rfl, by decide +kernel, rfl, by decide +kernel, by decide +kernel⟩
def t_Order_conflicts (K : PySem.W.Frag) (P : Program) (w : World) (sp_Order_precedes : Sp) : TS :=
  (tSeq (tAsg (tLst tNil) (gName 1))
    (tSeq (tFor (iEnum K (tCons (tFld K (tVar 0) "lines") tNil)) (gTup K 2 (gCons (gName 2) (gCons (gName 3) gNil))) (tFor (iList K (tSl (rSlL K) (tFld K (tVar 0) "lines") (tPart (tOp rAddI (tVar 2) (tC (.int 1)))) tNoPart)) (gName 4) (tIfS (tAnd (tNot (tB (tMeth (gad K "Order") "precedes" sp_Order_precedes [] E0 (tVar 0) (tCons (tVar 3) (tCons (tVar 4) tNil))))) (tNot (tB (tMeth (gad K "Order") "precedes" sp_Order_precedes [] E0 (tVar 0) (tCons (tVar 4) (tCons (tVar 3) tNil)))))) (tDrop (tBM K "list" rAppend (tVar 1) (tCons (tTup (tCons (tVar 3) (tCons (tVar 4) tNil))) tNil))) tNext)))
    (tRet (tVar 1))))
theorem der_Order_conflicts (T : Txt K mg) {sp_Order_precedes : Sp} (G_Order_precedes : DOk P w K mg base CX0 1 (mad K "Order" "precedes") p_Order_precedes sp_Order_precedes) {f : Addr} {cdv : Value} {A : Around} {outer : List Env} {s : Shared} {H : Hp} {E : XK} (hr : Room 1 (A.deeper (envOfC "Order.conflicts" (defScope s_Order_conflicts) s.heap.objs.size f cdv))) :
    PSs (cxOf CX0 P w K mg base N_Order_conflicts "Order.conflicts" (defScope s_Order_conflicts) f cdv A outer s H E).nox (defBody s_Order_conflicts) (t_Order_conflicts K P w sp_Order_precedes) :=
  (pss_cons (ps_set (i := 1) sc_Order_conflicts.nd rfl (Or.inl rfl) (pe_lst pa_nil))
      (pss_cons (ps_for PassesOwn.never rfl (pi_enum (by rfl) T.n_enumerate (pa_cons (pe_fld (pv 0) rfl) pa_nil)) (pg_tup rfl (pgs_cons (pg_name (i := 2) sc_Order_conflicts.nd rfl (Or.inl rfl)) (pgs_cons (pg_name (i := 3) sc_Order_conflicts.nd rfl (Or.inl rfl)) pgs_nil))) (pss_one (ps_for PassesOwn.never rfl (pi_list (pe_slice sl_list (pe_fld (pv 0) rfl) (po_some (pe_op op_add (pv 2) pe_int)) po_none)) (pg_name (i := 4) sc_Order_conflicts.nd rfl (Or.inl rfl)) (pss_one (ps_if (PW.pt (pw_and (pt_not (pt_val (pe_mcall G_Order_precedes (hr.mono (by decide)) T.cl_Order T.m_Order_precedes pass0 (pv 0) (by exact (pa_cons (pv 3) (pa_cons (pv 4) pa_nil)))))) (pw_and1 (pt_not (pt_val (pe_mcall G_Order_precedes (hr.mono (by decide)) T.cl_Order T.m_Order_precedes pass0 (pv 0) (by exact (pa_cons (pv 4) (pa_cons (pv 3) pa_nil))))))))) (pss_one (ps_expr (pe_bm PySem.F.plainAttrs_list PySem.F.slot_list_append PySem.F.type_list_append mt_append (pv 1) (pa_cons (pe_tup (pa_cons (pv 3) (pa_cons (pv 4) pa_nil))) pa_nil)))) pss_nil)))))
      (pss_one (ps_ret (pv 1)))))
theorem ok_of_Order_conflicts (T : Txt K mg) {sp_Order_precedes : Sp} (G_Order_precedes : DOk P w K mg base CX0 1 (mad K "Order" "precedes") p_Order_precedes sp_Order_precedes) {sp : Sp} (len : ∀ vs H Q E, sp vs H Q E → vs.length = 1)
    (h : ∀ vs H Q E, sp vs H Q E → t_Order_conflicts K P w sp_Order_precedes { nx := fun _ H' => Q .non H', rt := Q } (start N_Order_conflicts vs) H) : DOk P w K mg base CX0 2 (mad K "Order" "conflicts") p_Order_conflicts sp :=
  dok_of T.F_Order_conflicts sc_Order_conflicts len (fun _ _ _ _ _ _ us hl => match us, hl with | [_], _ => rfl) fun f cdv A outer s H vs Q E hr q => ⟨_, (der_Order_conflicts T G_Order_precedes hr).nox, h vs H Q E q⟩
abbrev s_Order_init : Stmt := inClass (topS 12) 0
abbrev N_Order_init : List Str := ["self", "changes", "steps", "left", "position", "following"]
abbrev p_Order_init : List Str := ["self", "changes"]
theorem sc_Order_init : FnScope N_Order_init p_Order_init (defScope s_Order_init) := ⟨rfl, rfl, rfl, by decide +kernel, rfl, by decide +kernel, by decide +kernel⟩
def t_Order_init (K : PySem.W.Frag) (P : Program) (w : World) (sp_steps_of : Sp) (sp_visible_of : Sp) (sp_reached_from : Sp) (sp_Order_next_of : Sp) : TS :=
  (tSeq (tAsg (tCall sp_steps_of [] E0 (tCons (tVar 1) tNil)) (gName 2))
    (tSeq (tAsg (tCall sp_visible_of [] E0 (tCons (tVar 1) tNil)) (gName 3))
    (tSeq (sFld K (tVar 0) (tXNew P w) "reached")
    (tSeq (tFor (iList K (tVar 3)) (gName 4) (sXPut K P w (tFld K (tVar 0) "reached") (tVar 4) (tCall sp_reached_from [] E0 (tCons (tVar 2) (tCons (tVar 4) tNil)))))
    (tSeq (sFld K (tVar 0) (tLst tNil) "lines")
    (tWhile (tTest (tOp (rNeD K) (tVar 3) (tLst tNil))) (tSeq (tAsg (tMeth (gad K "Order") "next_of" sp_Order_next_of [] E0 (tVar 0) (tCons (tVar 3) tNil)) (gName 5))
    (tSeq (tDrop (tBM K "list" rAppend (tFld K (tVar 0) "lines") (tCons (tVar 5) tNil)))
    (tAsg (tLc (iList K (tVar 3)) (gName 4) (tTest (tOp (rNeD K) (tVar 4) (tVar 5))) (tVar 4) [4]) (gName 3))))))))))
theorem der_Order_init (T : Txt K mg) {sp_steps_of : Sp} (G_steps_of : DOk P w K mg base CX0 2 (gad K "steps_of") p_steps_of sp_steps_of) {sp_visible_of : Sp} (G_visible_of : DOk P w K mg base CX0 1 (gad K "visible_of") p_visible_of sp_visible_of) {sp_reached_from : Sp} (G_reached_from : DOk P w K mg base CX0 1 (gad K "reached_from") p_reached_from sp_reached_from) {sp_Order_next_of : Sp} (G_Order_next_of : DOk P w K mg base CX0 2 (mad K "Order" "next_of") p_Order_next_of sp_Order_next_of) {f : Addr} {cdv : Value} {A : Around} {outer : List Env} {s : Shared} {H : Hp} {E : XK} (hr : Room 2 (A.deeper (envOfC "Order.__init__" (defScope s_Order_init) s.heap.objs.size f cdv))) :
    PSs (cxOf CX0 P w K mg base N_Order_init "Order.__init__" (defScope s_Order_init) f cdv A outer s H E).nox (defBody s_Order_init) (t_Order_init K P w sp_steps_of sp_visible_of sp_reached_from sp_Order_next_of) :=
  (pss_cons (ps_set (i := 2) sc_Order_init.nd rfl (Or.inl rfl) (pe_fcall G_steps_of (hr.mono (by decide)) T.g_steps_of pass0 (by exact (pa_cons (pv 1) pa_nil))))
      (pss_cons (ps_set (i := 3) sc_Order_init.nd rfl (Or.inl rfl) (pe_fcall G_visible_of (hr.mono (by decide)) T.g_visible_of pass0 (by exact (pa_cons (pv 1) pa_nil))))
      (pss_cons (ps_fld (pv 0) pe_xnew rfl)
      (pss_cons (ps_for PassesOwn.never rfl (pi_list (pv 3)) (pg_name (i := 4) sc_Order_init.nd rfl (Or.inl rfl)) (pss_one (ps_xput (hu_of hr) (pe_fld (pv 0) rfl) (pv 4) (pe_fcall G_reached_from (hr.mono (by decide)) T.g_reached_from pass0 (by exact (pa_cons (pv 2) (pa_cons (pv 4) pa_nil)))) rfl)))
      (pss_cons (ps_fld (pv 0) (pe_lst pa_nil) rfl)
      (pss_one (ps_while PassesOwn.never (pt_cmpR (op_neD hr.units) (pv 3) (pe_lst pa_nil) (nomark _)) (pss_cons (ps_set (i := 5) sc_Order_init.nd rfl (Or.inr rfl) (pe_mcall G_Order_next_of (hr.mono (by decide)) T.cl_Order T.m_Order_next_of pass0 (pv 0) (by exact (pa_cons (pv 3) pa_nil))))
      (pss_cons (ps_expr (pe_bm PySem.F.plainAttrs_list PySem.F.slot_list_append PySem.F.type_list_append mt_append (pe_fld (pv 0) rfl) (pa_cons (pv 5) pa_nil)))
      (pss_one (ps_setLc (i := 3) (own := [("position", 4)]) rfl sc_Order_init.nd rfl rfl (sw_true rfl rfl rfl (by decide +kernel)) (pi_list (pv 3)) (blkOk_by (own := [("position", 4)]) (N := N_Order_init) (sc := defScope s_Order_init) (by decide +kernel)) (fun _ _ _ _ _ => (pg_name (i := 4) sc_Order_init.nd rfl (Or.inl rfl))) (fun _ _ _ _ _ => (pts_one (pt_cmpR (op_neD hr.units) (pv 4) (pv 5) (nomark _)))) (fun _ _ _ _ _ => (pv 4)))))))))))))
theorem ok_of_Order_init (T : Txt K mg) {sp_steps_of : Sp} (G_steps_of : DOk P w K mg base CX0 2 (gad K "steps_of") p_steps_of sp_steps_of) {sp_visible_of : Sp} (G_visible_of : DOk P w K mg base CX0 1 (gad K "visible_of") p_visible_of sp_visible_of) {sp_reached_from : Sp} (G_reached_from : DOk P w K mg base CX0 1 (gad K "reached_from") p_reached_from sp_reached_from) {sp_Order_next_of : Sp} (G_Order_next_of : DOk P w K mg base CX0 2 (mad K "Order" "next_of") p_Order_next_of sp_Order_next_of) {sp : Sp} (len : ∀ vs H Q E, sp vs H Q E → vs.length = 2)
    (h : ∀ vs H Q E, sp vs H Q E → t_Order_init K P w sp_steps_of sp_visible_of sp_reached_from sp_Order_next_of { nx := fun _ H' => Q .non H', rt := Q } (start N_Order_init vs) H) : DOk P w K mg base CX0 3 (mad K "Order" "__init__") p_Order_init sp :=
  dok_of T.F_Order_init sc_Order_init len (fun _ _ _ _ _ _ us hl => match us, hl with | [_, _], _ => rfl) fun f cdv A outer s H vs Q E hr q => ⟨_, (der_Order_init T G_steps_of G_visible_of G_reached_from G_Order_next_of hr).nox, h vs H Q E q⟩
end
end Lg

-- ==== LgDer3 ====
set_option Elab.async false
set_option linter.all false
set_option maxRecDepth 100000
set_option maxHeartbeats 4000000
/-! LgDer3: readings of the defs, and that their text has them (printed by gen.py). -/
namespace Lg
open PySem PySem.Spec PyProof.Rows L2
section
variable {P : Program} {w : World} {K : PySem.W.Frag} {mg : Str → Option Value} {base : Heap}
abbrev s_demand : Stmt := topS 30
abbrev N_demand : List Str := ["is_right", "code"]
abbrev p_demand : List Str := ["is_right", "code"]
theorem sc_demand : FnScope N_demand p_demand (defScope s_demand) := ⟨rfl, rfl, rfl, by decide +kernel, rfl, by decide +kernel, by decide +kernel⟩
def t_demand (K : PySem.W.Frag) (P : Program) (w : World) (E : XK) : TS :=
  (tIfS (tNot (tB (tVar 0))) (tRaiseRef (gad K "Refused") (fun cls d _ H => E cls d H) (tCons (tLst (tCons (tVar 1) tNil)) tNil)) tNext)
theorem der_demand (T : Txt K mg)  {f : Addr} {cdv : Value} {A : Around} {outer : List Env} {s : Shared} {H : Hp} {E : XK} (hr : Room 2 (A.deeper (envOfC "demand" (defScope s_demand) s.heap.objs.size f cdv))) :
    PSs (cxOf (L2.CX P w) P w K mg base N_demand "demand" (defScope s_demand) f cdv A outer s H E) (defBody s_demand) (t_demand K P w E) :=
  (pss_one (ps_if (pt_not (pt_val (pv 0))) (pss_one (ps_raiseRef rfl T.refx hr (takes_of rfl rfl rfl rfl) (by exact (pa_cons (pe_lst (pa_cons (pv 1) pa_nil)) pa_nil)))) pss_nil))
theorem ok_of_demand (T : Txt K mg)  {sp : Sp} (len : ∀ vs H Q E, sp vs H Q E → vs.length = 2)
    (h : ∀ vs H Q E, sp vs H Q E → t_demand K P w E { nx := fun _ H' => Q .non H', rt := Q } (start N_demand vs) H) : DOk P w K mg base (L2.CX P w) 3 (gad K "demand") p_demand sp :=
  dok_of T.F_demand sc_demand len (fun _ _ _ _ _ _ us hl => match us, hl with | [_, _], _ => rfl) fun f cdv A outer s H vs Q E hr q => ⟨_, der_demand T  hr, h vs H Q E q⟩
abbrev s_told_row : Stmt := topS 31
abbrev N_told_row : List Str := ["numbers"]
abbrev p_told_row : List Str := ["numbers"]
theorem sc_told_row : FnScope N_told_row p_told_row (defScope s_told_row) := ⟨rfl, rfl, rfl, by decide +kernel, rfl, by decide +kernel, by decide +kernel⟩
def t_told_row (K : PySem.W.Frag) (P : Program) (w : World) : TS :=
  (tRet (tOp rCat (tLst (tCons (tCB (rLen K) (tCons (tVar 0) tNil)) tNil)) (tVar 0)))
theorem der_told_row (T : Txt K mg)  {f : Addr} {cdv : Value} {A : Around} {outer : List Env} {s : Shared} {H : Hp} {E : XK} (hr : Room 0 (A.deeper (envOfC "told_row" (defScope s_told_row) s.heap.objs.size f cdv))) :
    PSs (cxOf CX0 P w K mg base N_told_row "told_row" (defScope s_told_row) f cdv A outer s H E).nox (defBody s_told_row) (t_told_row K P w) :=
  (pss_one (ps_ret (pe_op op_cat (pe_lst (pa_cons (pe_callB c_len (by rfl) T.n_len PySem.boot_len (pa_cons (pv 0) pa_nil)) pa_nil)) (pv 0))))
theorem ok_of_told_row (T : Txt K mg)  {sp : Sp} (len : ∀ vs H Q E, sp vs H Q E → vs.length = 1)
    (h : ∀ vs H Q E, sp vs H Q E → t_told_row K P w { nx := fun _ H' => Q .non H', rt := Q } (start N_told_row vs) H) : DOk P w K mg base CX0 1 (gad K "told_row") p_told_row sp :=
  dok_of T.F_told_row sc_told_row len (fun _ _ _ _ _ _ us hl => match us, hl with | [_], _ => rfl) fun f cdv A outer s H vs Q E hr q => ⟨_, (der_told_row T  hr).nox, h vs H Q E q⟩
abbrev s_told_line : Stmt := topS 32
abbrev N_told_line : List Str := ["line"]
abbrev p_told_line : List Str := ["line"]
theorem sc_told_line : FnScope N_told_line p_told_line (defScope s_told_line) := ⟨rfl, rfl, rfl, by decide +kernel, rfl, by decide +kernel, by decide +kernel⟩
def t_told_line (K : PySem.W.Frag) (P : Program) (w : World) : TS :=
  (tRet (tOp rCat (tLst (tCons (tCB (rLen K) (tCons (tVar 0) tNil)) tNil)) (tCB (rListOf K) (tCons (tVar 0) tNil))))
theorem der_told_line (T : Txt K mg)  {f : Addr} {cdv : Value} {A : Around} {outer : List Env} {s : Shared} {H : Hp} {E : XK} (hr : Room 0 (A.deeper (envOfC "told_line" (defScope s_told_line) s.heap.objs.size f cdv))) :
    PSs (cxOf CX0 P w K mg base N_told_line "told_line" (defScope s_told_line) f cdv A outer s H E).nox (defBody s_told_line) (t_told_line K P w) :=
  (pss_one (ps_ret (pe_op op_cat (pe_lst (pa_cons (pe_callB c_len (by rfl) T.n_len PySem.boot_len (pa_cons (pv 0) pa_nil)) pa_nil)) (pe_callTy c_list (by rfl) T.n_list (by decide +kernel) (pa_cons (pv 0) pa_nil)))))
theorem ok_of_told_line (T : Txt K mg)  {sp : Sp} (len : ∀ vs H Q E, sp vs H Q E → vs.length = 1)
    (h : ∀ vs H Q E, sp vs H Q E → t_told_line K P w { nx := fun _ H' => Q .non H', rt := Q } (start N_told_line vs) H) : DOk P w K mg base CX0 1 (gad K "told_line") p_told_line sp :=
  dok_of T.F_told_line sc_told_line len (fun _ _ _ _ _ _ us hl => match us, hl with | [_], _ => rfl) fun f cdv A outer s H vs Q E hr q => ⟨_, (der_told_line T  hr).nox, h vs H Q E q⟩
abbrev s_lines_in : Stmt := topS 33
abbrev N_lines_in : List Str := ["numbers", "found", "at", "end"]
abbrev p_lines_in : List Str := ["numbers"]
theorem sc_lines_in : FnScope N_lines_in p_lines_in (defScope s_lines_in) := ⟨rfl, rfl, rfl, by decide +kernel, rfl, by decide +kernel, by decide +kernel⟩
def t_lines_in (K : PySem.W.Frag) (P : Program) (w : World) : TS :=
  (tSeq (tPar 1 2 (tCons (tLst tNil) (tCons (tC (.int 0)) tNil)))
    (tSeq (tWhile (tTest (tOp rLtI (tVar 2) (tCB (rLen K) (tCons (tVar 0) tNil)))) (tSeq (tAsg (tOp rAddI (tOp rAddI (tVar 2) (tC (.int 1))) (tOp (rIxL K) (tVar 0) (tVar 2))) (gName 3))
    (tSeq (tDrop (tBM K "list" rAppend (tVar 1) (tCons (tCB (rTupOf K) (tCons (tSl (rSlL K) (tVar 0) (tPart (tOp rAddI (tVar 2) (tC (.int 1)))) (tPart (tVar 3))) tNil)) tNil)))
    (tAsg (tVar 3) (gName 2)))))
    (tRet (tVar 1))))
theorem der_lines_in (T : Txt K mg)  {f : Addr} {cdv : Value} {A : Around} {outer : List Env} {s : Shared} {H : Hp} {E : XK} (hr : Room 0 (A.deeper (envOfC "lines_in" (defScope s_lines_in) s.heap.objs.size f cdv))) :
    PSs (cxOf CX0 P w K mg base N_lines_in "lines_in" (defScope s_lines_in) f cdv A outer s H E).nox (defBody s_lines_in) (t_lines_in K P w) :=
  (pss_cons (ps_par (i := 1) (j := 2) rfl sc_lines_in.nd rfl rfl (by decide) rfl rfl (by exact (pa_cons (pe_lst pa_nil) (pa_cons pe_int pa_nil))) (by rfl))
      (pss_cons (ps_while PassesOwn.never (pt_cmpR op_lt (pv 2) (pe_callB c_len (by rfl) T.n_len PySem.boot_len (pa_cons (pv 0) pa_nil)) (nomark _)) (pss_cons (ps_set (i := 3) sc_lines_in.nd rfl (Or.inl rfl) (pe_op op_add (pe_op op_add (pv 2) pe_int) (pe_ix ix_list (pv 0) (pv 2) (fun _ _ => rfl))))
      (pss_cons (ps_expr (pe_bm PySem.F.plainAttrs_list PySem.F.slot_list_append PySem.F.type_list_append mt_append (pv 1) (pa_cons (pe_callTy c_tuple (by rfl) T.n_tuple (by decide +kernel) (pa_cons (pe_slice sl_list (pv 0) (po_some (pe_op op_add (pv 2) pe_int)) (po_some (pv 3))) pa_nil)) pa_nil)))
      (pss_one (ps_set (i := 2) sc_lines_in.nd rfl (Or.inl rfl) (pv 3))))))
      (pss_one (ps_ret (pv 1)))))
theorem ok_of_lines_in (T : Txt K mg)  {sp : Sp} (len : ∀ vs H Q E, sp vs H Q E → vs.length = 1)
    (h : ∀ vs H Q E, sp vs H Q E → t_lines_in K P w { nx := fun _ H' => Q .non H', rt := Q } (start N_lines_in vs) H) : DOk P w K mg base CX0 1 (gad K "lines_in") p_lines_in sp :=
  dok_of T.F_lines_in sc_lines_in len (fun _ _ _ _ _ _ us hl => match us, hl with | [_], _ => rfl) fun f cdv A outer s H vs Q E hr q => ⟨_, (der_lines_in T  hr).nox, h vs H Q E q⟩
abbrev s_pairs_in : Stmt := topS 34
abbrev N_pairs_in : List Str := ["numbers", "at"]
abbrev p_pairs_in : List Str := ["numbers"]
theorem sc_pairs_in : FnScope N_pairs_in p_pairs_in (defScope s_pairs_in) := ⟨rfl, rfl, rfl, by decide +kernel, rfl, by decide +kernel, by decide +kernel⟩
def t_pairs_in (K : PySem.W.Frag) (P : Program) (w : World) : TS :=
  (tRet (tLc (iRng3 (tCons (tC (.int 0)) (tCons (tCB (rLen K) (tCons (tVar 0) tNil)) (tCons (tC (.int 2)) tNil)))) (gName 1) tYes (tTup (tCons (tOp (rIxL K) (tVar 0) (tVar 1)) (tCons (tOp (rIxL K) (tVar 0) (tOp rAddI (tVar 1) (tC (.int 1)))) tNil))) [1]))
theorem der_pairs_in (T : Txt K mg)  {f : Addr} {cdv : Value} {A : Around} {outer : List Env} {s : Shared} {H : Hp} {E : XK} (hr : Room 0 (A.deeper (envOfC "pairs_in" (defScope s_pairs_in) s.heap.objs.size f cdv))) :
    PSs (cxOf CX0 P w K mg base N_pairs_in "pairs_in" (defScope s_pairs_in) f cdv A outer s H E).nox (defBody s_pairs_in) (t_pairs_in K P w) :=
  (pss_one (ps_ret (pe_lc (own := [("at", 1)]) rfl sc_pairs_in.nd (pi_range3 (by rfl) T.n_range (pa_cons pe_int (pa_cons (pe_callB c_len (by rfl) T.n_len PySem.boot_len (pa_cons (pv 0) pa_nil)) (pa_cons pe_int pa_nil)))) (blkOk_by (own := [("at", 1)]) (N := N_pairs_in) (sc := defScope s_pairs_in) (by decide +kernel)) (fun _ _ _ _ _ => (pg_name (i := 1) sc_pairs_in.nd rfl (Or.inl rfl))) (fun _ _ _ _ _ => pts_nil) (fun _ _ _ _ _ => (pe_tup (pa_cons (pe_ix ix_list (pv 0) (pv 1) (fun _ _ => rfl)) (pa_cons (pe_ix ix_list (pv 0) (pe_op op_add (pv 1) pe_int) (fun _ _ => rfl)) pa_nil)))))))
theorem ok_of_pairs_in (T : Txt K mg)  {sp : Sp} (len : ∀ vs H Q E, sp vs H Q E → vs.length = 1)
    (h : ∀ vs H Q E, sp vs H Q E → t_pairs_in K P w { nx := fun _ H' => Q .non H', rt := Q } (start N_pairs_in vs) H) : DOk P w K mg base CX0 1 (gad K "pairs_in") p_pairs_in sp :=
  dok_of T.F_pairs_in sc_pairs_in len (fun _ _ _ _ _ _ us hl => match us, hl with | [_], _ => rfl) fun f cdv A outer s H vs Q E hr q => ⟨_, (der_pairs_in T  hr).nox, h vs H Q E q⟩
abbrev s_Session_init : Stmt := inClass (topS 35) 0
abbrev N_Session_init : List Str := ["self"]
abbrev p_Session_init : List Str := ["self"]
theorem sc_Session_init : FnScope N_Session_init p_Session_init (defScope s_Session_init) := ⟨rfl, rfl, rfl, by decide +kernel, rfl, by decide +kernel, by decide +kernel⟩
def t_Session_init (K : PySem.W.Frag) (P : Program) (w : World) : TS :=
  (tSeq (sFld K (tVar 0) (tLst tNil) "made")
    (sFld K (tVar 0) (tLst (tCons (tLst tNil) tNil)) "branches"))
theorem der_Session_init (T : Txt K mg)  {f : Addr} {cdv : Value} {A : Around} {outer : List Env} {s : Shared} {H : Hp} {E : XK} (hr : Room 0 (A.deeper (envOfC "Session.__init__" (defScope s_Session_init) s.heap.objs.size f cdv))) :
    PSs (cxOf CX0 P w K mg base N_Session_init "Session.__init__" (defScope s_Session_init) f cdv A outer s H E).nox (defBody s_Session_init) (t_Session_init K P w) :=
  (pss_cons (ps_fld (pv 0) (pe_lst pa_nil) rfl)
      (pss_one (ps_fld (pv 0) (pe_lst (pa_cons (pe_lst pa_nil) pa_nil)) rfl)))
theorem ok_of_Session_init (T : Txt K mg)  {sp : Sp} (len : ∀ vs H Q E, sp vs H Q E → vs.length = 1)
    (h : ∀ vs H Q E, sp vs H Q E → t_Session_init K P w { nx := fun _ H' => Q .non H', rt := Q } (start N_Session_init vs) H) : DOk P w K mg base CX0 1 (mad K "Session" "__init__") p_Session_init sp :=
  dok_of T.F_Session_init sc_Session_init len (fun _ _ _ _ _ _ us hl => match us, hl with | [_], _ => rfl) fun f cdv A outer s H vs Q E hr q => ⟨_, (der_Session_init T  hr).nox, h vs H Q E q⟩
abbrev s_Session_order : Stmt := inClass (topS 35) 4
abbrev N_Session_order : List Str := ["self", "branch", "number"]
abbrev p_Session_order : List Str := ["self", "branch"]
theorem sc_Session_order : FnScope N_Session_order p_Session_order (defScope s_Session_order) := ⟨rfl, rfl, rfl, by decide +kernel, rfl, by decide +kernel, by decide +kernel⟩
def t_Session_order (K : PySem.W.Frag) (P : Program) (w : World) (sp_Order_init : Sp) : TS :=
  (tRet (tMake (gad K "Order") sp_Order_init [] E0 (tCons (tLc (iList K (tOp (rIxL K) (tFld K (tVar 0) "branches") (tVar 1))) (gName 2) tYes (tOp (rIxL K) (tFld K (tVar 0) "made") (tVar 2)) [2]) tNil)))
theorem der_Session_order (T : Txt K mg) {sp_Order_init : Sp} (G_Order_init : DOk P w K mg base CX0 3 (mad K "Order" "__init__") p_Order_init sp_Order_init) {f : Addr} {cdv : Value} {A : Around} {outer : List Env} {s : Shared} {H : Hp} {E : XK} (hr : Room 4 (A.deeper (envOfC "Session.order" (defScope s_Session_order) s.heap.objs.size f cdv))) :
    PSs (cxOf CX0 P w K mg base N_Session_order "Session.order" (defScope s_Session_order) f cdv A outer s H E).nox (defBody s_Session_order) (t_Session_order K P w sp_Order_init) :=
  (pss_one (ps_ret (pe_mnew G_Order_init T.k_Order (hr.mono (by decide)) T.g_Order pass0 (by exact (pa_cons (pe_lc (own := [("number", 2)]) rfl sc_Session_order.nd (pi_list (pe_ix ix_list (pe_fld (pv 0) rfl) (pv 1) (fun _ _ => rfl))) (blkOk_by (own := [("number", 2)]) (N := N_Session_order) (sc := defScope s_Session_order) (by decide +kernel)) (fun _ _ _ _ _ => (pg_name (i := 2) sc_Session_order.nd rfl (Or.inl rfl))) (fun _ _ _ _ _ => pts_nil) (fun _ _ _ _ _ => (pe_ix ix_list (pe_fld (pv 0) rfl) (pv 2) (fun _ _ => rfl)))) pa_nil)))))
theorem ok_of_Session_order (T : Txt K mg) {sp_Order_init : Sp} (G_Order_init : DOk P w K mg base CX0 3 (mad K "Order" "__init__") p_Order_init sp_Order_init) {sp : Sp} (len : ∀ vs H Q E, sp vs H Q E → vs.length = 2)
    (h : ∀ vs H Q E, sp vs H Q E → t_Session_order K P w sp_Order_init { nx := fun _ H' => Q .non H', rt := Q } (start N_Session_order vs) H) : DOk P w K mg base CX0 5 (mad K "Session" "order") p_Session_order sp :=
  dok_of T.F_Session_order sc_Session_order len (fun _ _ _ _ _ _ us hl => match us, hl with | [_, _], _ => rfl) fun f cdv A outer s H vs Q E hr q => ⟨_, (der_Session_order T G_Order_init hr).nox, h vs H Q E q⟩
abbrev s_Session_line_at : Stmt := inClass (topS 35) 5
abbrev N_Session_line_at : List Str := ["self", "position"]
abbrev p_Session_line_at : List Str := ["self", "position"]
theorem sc_Session_line_at : FnScope N_Session_line_at p_Session_line_at (defScope s_Session_line_at) := ⟨rfl, rfl, rfl, by decide +kernel, rfl, by decide +kernel, by decide +kernel⟩
def t_Session_line_at (K : PySem.W.Frag) (P : Program) (w : World) : TS :=
  (tRet (tOp (rIxL K) (tFld K (tOp (rIxL K) (tFld K (tVar 0) "made") (tOp (rIxT K) (tVar 1) (tC (.int 0)))) "lines") (tOp (rIxT K) (tVar 1) (tC (.int 1)))))
theorem der_Session_line_at (T : Txt K mg)  {f : Addr} {cdv : Value} {A : Around} {outer : List Env} {s : Shared} {H : Hp} {E : XK} (hr : Room 0 (A.deeper (envOfC "Session.line_at" (defScope s_Session_line_at) s.heap.objs.size f cdv))) :
    PSs (cxOf CX0 P w K mg base N_Session_line_at "Session.line_at" (defScope s_Session_line_at) f cdv A outer s H E).nox (defBody s_Session_line_at) (t_Session_line_at K P w) :=
  (pss_one (ps_ret (pe_ix ix_list (pe_fld (pe_ix ix_list (pe_fld (pv 0) rfl) (pe_ix ix_tup (pv 1) pe_int (fun _ _ => rfl)) (fun _ _ => rfl)) rfl) (pe_ix ix_tup (pv 1) pe_int (fun _ _ => rfl)) (fun _ _ => rfl))))
theorem ok_of_Session_line_at (T : Txt K mg)  {sp : Sp} (len : ∀ vs H Q E, sp vs H Q E → vs.length = 2)
    (h : ∀ vs H Q E, sp vs H Q E → t_Session_line_at K P w { nx := fun _ H' => Q .non H', rt := Q } (start N_Session_line_at vs) H) : DOk P w K mg base CX0 1 (mad K "Session" "line_at") p_Session_line_at sp :=
  dok_of T.F_Session_line_at sc_Session_line_at len (fun _ _ _ _ _ _ us hl => match us, hl with | [_, _], _ => rfl) fun f cdv A outer s H vs Q E hr q => ⟨_, (der_Session_line_at T  hr).nox, h vs H Q E q⟩
abbrev s_Session_add : Stmt := inClass (topS 35) 6
abbrev N_Session_add : List Str := ["self", "branch", "numbers"]
abbrev p_Session_add : List Str := ["self", "branch", "numbers"]
theorem sc_Session_add : FnScope N_Session_add p_Session_add (defScope s_Session_add) := ⟨rfl, rfl, rfl, by decide +kernel, rfl, by decide +kernel, by decide +kernel⟩
def t_Session_add (K : PySem.W.Frag) (P : Program) (w : World) : TS :=
  (tAsg (tCB (rSortedSet w) (tCons (tCB (rSetI K w) (tCons (tOp rCat (tOp (rIxL K) (tFld K (tVar 0) "branches") (tVar 1)) (tVar 2)) tNil)) tNil)) (gSub (tFld K (tVar 0) "branches") (tVar 1) rSetL))
theorem der_Session_add (T : Txt K mg)  {f : Addr} {cdv : Value} {A : Around} {outer : List Env} {s : Shared} {H : Hp} {E : XK} (hr : Room 0 (A.deeper (envOfC "Session.add" (defScope s_Session_add) s.heap.objs.size f cdv))) :
    PSs (cxOf CX0 P w K mg base N_Session_add "Session.add" (defScope s_Session_add) f cdv A outer s H E).nox (defBody s_Session_add) (t_Session_add K P w) :=
  (pss_one (ps_asg (pe_callB (cr_sortedSet rfl) (by rfl) T.n_sorted (by decide +kernel) (pa_cons (pe_callTy (c_setI rfl) (by rfl) T.n_set (by decide +kernel) (pa_cons (pe_op op_cat (pe_ix ix_list (pe_fld (pv 0) rfl) (pv 1) (fun _ _ => rfl)) (pv 2)) pa_nil)) pa_nil)) (pg_sub (pe_fld (pv 0) rfl) (pv 1) set_list)))
theorem ok_of_Session_add (T : Txt K mg)  {sp : Sp} (len : ∀ vs H Q E, sp vs H Q E → vs.length = 3)
    (h : ∀ vs H Q E, sp vs H Q E → t_Session_add K P w { nx := fun _ H' => Q .non H', rt := Q } (start N_Session_add vs) H) : DOk P w K mg base CX0 1 (mad K "Session" "add") p_Session_add sp :=
  dok_of T.F_Session_add sc_Session_add len (fun _ _ _ _ _ _ us hl => match us, hl with | [_, _, _], _ => rfl) fun f cdv A outer s H vs Q E hr q => ⟨_, (der_Session_add T  hr).nox, h vs H Q E q⟩
abbrev s_Session_record : Stmt := inClass (topS 35) 7
abbrev N_Session_record : List Str := ["self", "branch", "change"]
abbrev p_Session_record : List Str := ["self", "branch", "change"]
theorem sc_Session_record : FnScope N_Session_record p_Session_record (defScope s_Session_record) := ⟨rfl, rfl, rfl, by decide +kernel, rfl, by decide +kernel, by decide +kernel⟩
def t_Session_record (K : PySem.W.Frag) (P : Program) (w : World) (sp_Session_add : Sp) : TS :=
  (tSeq (tDrop (tBM K "list" rAppend (tFld K (tVar 0) "made") (tCons (tVar 2) tNil)))
    (tSeq (tDrop (tMeth (gad K "Session") "add" sp_Session_add [] E0 (tVar 0) (tCons (tVar 1) (tCons (tLst (tCons (tFld K (tVar 2) "number") tNil)) tNil))))
    (tRet (tLst (tCons (tFld K (tVar 2) "number") tNil)))))
theorem der_Session_record (T : Txt K mg) {sp_Session_add : Sp} (G_Session_add : DOk P w K mg base CX0 1 (mad K "Session" "add") p_Session_add sp_Session_add) {f : Addr} {cdv : Value} {A : Around} {outer : List Env} {s : Shared} {H : Hp} {E : XK} (hr : Room 1 (A.deeper (envOfC "Session.record" (defScope s_Session_record) s.heap.objs.size f cdv))) :
    PSs (cxOf CX0 P w K mg base N_Session_record "Session.record" (defScope s_Session_record) f cdv A outer s H E).nox (defBody s_Session_record) (t_Session_record K P w sp_Session_add) :=
  (pss_cons (ps_expr (pe_bm PySem.F.plainAttrs_list PySem.F.slot_list_append PySem.F.type_list_append mt_append (pe_fld (pv 0) rfl) (pa_cons (pv 2) pa_nil)))
      (pss_cons (ps_expr (pe_mcall G_Session_add (hr.mono (by decide)) T.cl_Session T.m_Session_add pass0 (pv 0) (by exact (pa_cons (pv 1) (pa_cons (pe_lst (pa_cons (pe_fld (pv 2) rfl) pa_nil)) pa_nil)))))
      (pss_one (ps_ret (pe_lst (pa_cons (pe_fld (pv 2) rfl) pa_nil))))))
theorem ok_of_Session_record (T : Txt K mg) {sp_Session_add : Sp} (G_Session_add : DOk P w K mg base CX0 1 (mad K "Session" "add") p_Session_add sp_Session_add) {sp : Sp} (len : ∀ vs H Q E, sp vs H Q E → vs.length = 3)
    (h : ∀ vs H Q E, sp vs H Q E → t_Session_record K P w sp_Session_add { nx := fun _ H' => Q .non H', rt := Q } (start N_Session_record vs) H) : DOk P w K mg base CX0 2 (mad K "Session" "record") p_Session_record sp :=
  dok_of T.F_Session_record sc_Session_record len (fun _ _ _ _ _ _ us hl => match us, hl with | [_, _, _], _ => rfl) fun f cdv A outer s H vs Q E hr q => ⟨_, (der_Session_record T G_Session_add hr).nox, h vs H Q E q⟩
abbrev s_Session_required : Stmt := inClass (topS 35) 8
abbrev N_Session_required : List Str := ["self", "number", "found", "at", "one"]
abbrev p_Session_required : List Str := ["self", "number"]
theorem sc_Session_required : FnScope N_Session_required p_Session_required (defScope s_Session_required) := ⟨rfl, rfl, rfl, by decide +kernel, rfl, by decide +kernel, by decide +kernel⟩
def t_Session_required (K : PySem.W.Frag) (P : Program) (w : World) (sp_Change_dependencies : Sp) : TS :=
  (tSeq (tAsg (tTup (tCons (tLst (tCons (tVar 1) tNil)) (tCons (tC (.int 0)) tNil))) (gTup K 2 (gCons (gName 2) (gCons (gName 3) gNil))))
    (tSeq (tWhile (tTest (tOp rLtI (tVar 3) (tCB (rLen K) (tCons (tVar 2) tNil)))) (tSeq (tDrop (tBM K "list" rExtend (tVar 2) (tCons (tLc (iList K (tMeth (gad K "Change") "dependencies" sp_Change_dependencies [] E0 (tOp (rIxL K) (tFld K (tVar 0) "made") (tOp (rIxL K) (tVar 2) (tVar 3))) tNil)) (gName 4) (tTest (tOp (rIn K true) (tVar 4) (tVar 2))) (tVar 4) [4]) tNil)))
    (tAug 3 (tC (.int 1)) (ipI fun i j => i + j))))
    (tRet (tCB (rSorted K) (tCons (tVar 2) tNil)))))
theorem der_Session_required (T : Txt K mg) {sp_Change_dependencies : Sp} (G_Change_dependencies : DOk P w K mg base CX0 1 (mad K "Change" "dependencies") p_Change_dependencies sp_Change_dependencies) {f : Addr} {cdv : Value} {A : Around} {outer : List Env} {s : Shared} {H : Hp} {E : XK} (hr : Room 1 (A.deeper (envOfC "Session.required" (defScope s_Session_required) s.heap.objs.size f cdv))) :
    PSs (cxOf CX0 P w K mg base N_Session_required "Session.required" (defScope s_Session_required) f cdv A outer s H E).nox (defBody s_Session_required) (t_Session_required K P w sp_Change_dependencies) :=
  (pss_cons (ps_asg (pe_tup (pa_cons (pe_lst (pa_cons (pv 1) pa_nil)) (pa_cons pe_int pa_nil))) (pg_tup rfl (pgs_cons (pg_name (i := 2) sc_Session_required.nd rfl (Or.inr rfl)) (pgs_cons (pg_name (i := 3) sc_Session_required.nd rfl (Or.inl rfl)) pgs_nil))))
      (pss_cons (ps_while PassesOwn.never (pt_cmpR op_lt (pv 3) (pe_callB c_len (by rfl) T.n_len PySem.boot_len (pa_cons (pv 2) pa_nil)) (nomark _)) (pss_cons (ps_expr (pe_bm PySem.F.plainAttrs_list PySem.F.slot_list_extend PySem.F.type_list_extend mt_extend (pv 2) (pa_cons (pe_lc (own := [("one", 4)]) rfl sc_Session_required.nd (pi_list (pe_mcall0 G_Change_dependencies (hr.mono (by decide)) T.cl_Change T.m_Change_dependencies pass0 (pe_ix ix_list (pe_fld (pv 0) rfl) (pe_ix ix_list (pv 2) (pv 3) (fun _ _ => rfl)) (fun _ _ => rfl)))) (blkOk_by (own := [("one", 4)]) (N := N_Session_required) (sc := defScope s_Session_required) (by decide +kernel)) (fun _ _ _ _ _ => (pg_name (i := 4) sc_Session_required.nd rfl (Or.inl rfl))) (fun _ _ _ _ _ => (pts_one (pt_cmpR op_notIn_seq (pv 4) (pv 2) (by rfl)))) (fun _ _ _ _ _ => (pv 4))) pa_nil)))
      (pss_one (ps_aug (i := 3) sc_Session_required.nd rfl (Or.inl rfl) pe_int ip_add))))
      (pss_one (ps_ret (pe_callB cr_sorted (by rfl) T.n_sorted (by decide +kernel) (pa_cons (pv 2) pa_nil))))))
theorem ok_of_Session_required (T : Txt K mg) {sp_Change_dependencies : Sp} (G_Change_dependencies : DOk P w K mg base CX0 1 (mad K "Change" "dependencies") p_Change_dependencies sp_Change_dependencies) {sp : Sp} (len : ∀ vs H Q E, sp vs H Q E → vs.length = 2)
    (h : ∀ vs H Q E, sp vs H Q E → t_Session_required K P w sp_Change_dependencies { nx := fun _ H' => Q .non H', rt := Q } (start N_Session_required vs) H) : DOk P w K mg base CX0 2 (mad K "Session" "required") p_Session_required sp :=
  dok_of T.F_Session_required sc_Session_required len (fun _ _ _ _ _ _ us hl => match us, hl with | [_, _], _ => rfl) fun f cdv A outer s H vs Q E hr q => ⟨_, (der_Session_required T G_Change_dependencies hr).nox, h vs H Q E q⟩
end
end Lg

-- ==== LgDer4 ====
set_option Elab.async false
set_option linter.all false
set_option maxRecDepth 100000
set_option maxHeartbeats 4000000
/-! LgDer4: readings of the defs, and that their text has them (printed by gen.py). -/
namespace Lg
open PySem PySem.Spec PyProof.Rows L2
section
variable {P : Program} {w : World} {K : PySem.W.Frag} {mg : Str → Option Value} {base : Heap}
abbrev s_Session_ask_branch : Stmt := inClass (topS 35) 1
abbrev N_Session_ask_branch : List Str := ["self", "number"]
abbrev p_Session_ask_branch : List Str := ["self", "number"]
theorem sc_Session_ask_branch : FnScope N_Session_ask_branch p_Session_ask_branch (defScope s_Session_ask_branch) := ⟨rfl, rfl, rfl, by decide +kernel, rfl, by decide +kernel, by decide +kernel⟩
def t_Session_ask_branch (K : PySem.W.Frag) (P : Program) (w : World) (E : XK) (sp_demand : Sp) : TS :=
  (tDrop (tCall sp_demand [] E (tCons (tOp rLtI (tVar 1) (tCB (rLen K) (tCons (tFld K (tVar 0) "branches") tNil))) (tCons (tC (.int (-2))) tNil))))
theorem der_Session_ask_branch (T : Txt K mg) {sp_demand : Sp} (G_demand : DOk P w K mg base (L2.CX P w) 3 (gad K "demand") p_demand sp_demand) {f : Addr} {cdv : Value} {A : Around} {outer : List Env} {s : Shared} {H : Hp} {E : XK} (hr : Room 3 (A.deeper (envOfC "Session.ask_branch" (defScope s_Session_ask_branch) s.heap.objs.size f cdv))) :
    PSs (cxOf (L2.CX P w) P w K mg base N_Session_ask_branch "Session.ask_branch" (defScope s_Session_ask_branch) f cdv A outer s H E) (defBody s_Session_ask_branch) (t_Session_ask_branch K P w E sp_demand) :=
  (pss_one (ps_expr (pe_fcall G_demand (hr.mono (by decide)) T.g_demand (passes_call (takes_of rfl rfl rfl rfl) (fun _ _ _ _ h => h)) (by exact (pa_cons (pe_cmpR op_lt (pv 1) (pe_callB c_len (by rfl) T.n_len PySem.boot_len (pa_cons (pe_fld (pv 0) rfl) pa_nil)) (nomark _)) (pa_cons (pe_gint rfl T.i_NO_BRANCH) pa_nil))))))
theorem ok_of_Session_ask_branch (T : Txt K mg) {sp_demand : Sp} (G_demand : DOk P w K mg base (L2.CX P w) 3 (gad K "demand") p_demand sp_demand) {sp : Sp} (len : ∀ vs H Q E, sp vs H Q E → vs.length = 2)
    (h : ∀ vs H Q E, sp vs H Q E → t_Session_ask_branch K P w E sp_demand { nx := fun _ H' => Q .non H', rt := Q } (start N_Session_ask_branch vs) H) : DOk P w K mg base (L2.CX P w) 4 (mad K "Session" "ask_branch") p_Session_ask_branch sp :=
  dok_of T.F_Session_ask_branch sc_Session_ask_branch len (fun _ _ _ _ _ _ us hl => match us, hl with | [_, _], _ => rfl) fun f cdv A outer s H vs Q E hr q => ⟨_, der_Session_ask_branch T G_demand hr, h vs H Q E q⟩
abbrev s_Session_ask_change : Stmt := inClass (topS 35) 2
abbrev N_Session_ask_change : List Str := ["self", "number"]
abbrev p_Session_ask_change : List Str := ["self", "number"]
theorem sc_Session_ask_change : FnScope N_Session_ask_change p_Session_ask_change (defScope s_Session_ask_change) := ⟨rfl, rfl, rfl, by decide +kernel, rfl, by decide +kernel, by decide +kernel⟩
def t_Session_ask_change (K : PySem.W.Frag) (P : Program) (w : World) (E : XK) (sp_demand : Sp) : TS :=
  (tDrop (tCall sp_demand [] E (tCons (tOp rLtI (tVar 1) (tCB (rLen K) (tCons (tFld K (tVar 0) "made") tNil))) (tCons (tC (.int (-3))) tNil))))
theorem der_Session_ask_change (T : Txt K mg) {sp_demand : Sp} (G_demand : DOk P w K mg base (L2.CX P w) 3 (gad K "demand") p_demand sp_demand) {f : Addr} {cdv : Value} {A : Around} {outer : List Env} {s : Shared} {H : Hp} {E : XK} (hr : Room 3 (A.deeper (envOfC "Session.ask_change" (defScope s_Session_ask_change) s.heap.objs.size f cdv))) :
    PSs (cxOf (L2.CX P w) P w K mg base N_Session_ask_change "Session.ask_change" (defScope s_Session_ask_change) f cdv A outer s H E) (defBody s_Session_ask_change) (t_Session_ask_change K P w E sp_demand) :=
  (pss_one (ps_expr (pe_fcall G_demand (hr.mono (by decide)) T.g_demand (passes_call (takes_of rfl rfl rfl rfl) (fun _ _ _ _ h => h)) (by exact (pa_cons (pe_cmpR op_lt (pv 1) (pe_callB c_len (by rfl) T.n_len PySem.boot_len (pa_cons (pe_fld (pv 0) rfl) pa_nil)) (nomark _)) (pa_cons (pe_gint rfl T.i_NOT_THERE) pa_nil))))))
theorem ok_of_Session_ask_change (T : Txt K mg) {sp_demand : Sp} (G_demand : DOk P w K mg base (L2.CX P w) 3 (gad K "demand") p_demand sp_demand) {sp : Sp} (len : ∀ vs H Q E, sp vs H Q E → vs.length = 2)
    (h : ∀ vs H Q E, sp vs H Q E → t_Session_ask_change K P w E sp_demand { nx := fun _ H' => Q .non H', rt := Q } (start N_Session_ask_change vs) H) : DOk P w K mg base (L2.CX P w) 4 (mad K "Session" "ask_change") p_Session_ask_change sp :=
  dok_of T.F_Session_ask_change sc_Session_ask_change len (fun _ _ _ _ _ _ us hl => match us, hl with | [_, _], _ => rfl) fun f cdv A outer s H vs Q E hr q => ⟨_, der_Session_ask_change T G_demand hr, h vs H Q E q⟩
abbrev s_Session_ask_room : Stmt := inClass (topS 35) 3
abbrev N_Session_ask_room : List Str := ["self"]
abbrev p_Session_ask_room : List Str := ["self"]
theorem sc_Session_ask_room : FnScope N_Session_ask_room p_Session_ask_room (defScope s_Session_ask_room) := ⟨rfl, rfl, rfl, by decide +kernel, rfl, by decide +kernel, by decide +kernel⟩
def t_Session_ask_room (K : PySem.W.Frag) (P : Program) (w : World) (E : XK) (sp_demand : Sp) : TS :=
  (tDrop (tCall sp_demand [] E (tCons (tOp rLtI (tCB (rLen K) (tCons (tFld K (tVar 0) "made") tNil)) (tC (.int (12)))) (tCons (tC (.int (-8))) tNil))))
theorem der_Session_ask_room (T : Txt K mg) {sp_demand : Sp} (G_demand : DOk P w K mg base (L2.CX P w) 3 (gad K "demand") p_demand sp_demand) {f : Addr} {cdv : Value} {A : Around} {outer : List Env} {s : Shared} {H : Hp} {E : XK} (hr : Room 3 (A.deeper (envOfC "Session.ask_room" (defScope s_Session_ask_room) s.heap.objs.size f cdv))) :
    PSs (cxOf (L2.CX P w) P w K mg base N_Session_ask_room "Session.ask_room" (defScope s_Session_ask_room) f cdv A outer s H E) (defBody s_Session_ask_room) (t_Session_ask_room K P w E sp_demand) :=
  (pss_one (ps_expr (pe_fcall G_demand (hr.mono (by decide)) T.g_demand (passes_call (takes_of rfl rfl rfl rfl) (fun _ _ _ _ h => h)) (by exact (pa_cons (pe_cmpR op_lt (pe_callB c_len (by rfl) T.n_len PySem.boot_len (pa_cons (pe_fld (pv 0) rfl) pa_nil)) (pe_gint rfl T.i_MOST_CHANGES) (nomark _)) (pa_cons (pe_gint rfl T.i_TOO_MANY) pa_nil))))))
theorem ok_of_Session_ask_room (T : Txt K mg) {sp_demand : Sp} (G_demand : DOk P w K mg base (L2.CX P w) 3 (gad K "demand") p_demand sp_demand) {sp : Sp} (len : ∀ vs H Q E, sp vs H Q E → vs.length = 1)
    (h : ∀ vs H Q E, sp vs H Q E → t_Session_ask_room K P w E sp_demand { nx := fun _ H' => Q .non H', rt := Q } (start N_Session_ask_room vs) H) : DOk P w K mg base (L2.CX P w) 4 (mad K "Session" "ask_room") p_Session_ask_room sp :=
  dok_of T.F_Session_ask_room sc_Session_ask_room len (fun _ _ _ _ _ _ us hl => match us, hl with | [_], _ => rfl) fun f cdv A outer s H vs Q E hr q => ⟨_, der_Session_ask_room T G_demand hr, h vs H Q E q⟩
abbrev s_Session_fork : Stmt := inClass (topS 35) 9
abbrev N_Session_fork : List Str := ["self", "branch"]
abbrev p_Session_fork : List Str := ["self", "branch"]
theorem sc_Session_fork : FnScope N_Session_fork p_Session_fork (defScope s_Session_fork) := ⟨rfl, rfl, rfl, by decide +kernel, rfl, by decide +kernel, by decide +kernel⟩
def t_Session_fork (K : PySem.W.Frag) (P : Program) (w : World) (E : XK) (sp_Session_ask_branch : Sp) (sp_demand : Sp) : TS :=
  (tSeq (tDrop (tMeth (gad K "Session") "ask_branch" sp_Session_ask_branch [] E (tVar 0) (tCons (tVar 1) tNil)))
    (tSeq (tDrop (tCall sp_demand [] E (tCons (tOp rLtI (tCB (rLen K) (tCons (tFld K (tVar 0) "branches") tNil)) (tC (.int (5)))) (tCons (tC (.int (-8))) tNil))))
    (tSeq (tDrop (tBM K "list" rAppend (tFld K (tVar 0) "branches") (tCons (tCB (rListOf K) (tCons (tOp (rIxL K) (tFld K (tVar 0) "branches") (tVar 1)) tNil)) tNil)))
    (tRet (tLst (tCons (tOp rSubI (tCB (rLen K) (tCons (tFld K (tVar 0) "branches") tNil)) (tC (.int 1))) tNil))))))
theorem der_Session_fork (T : Txt K mg) {sp_Session_ask_branch : Sp} (G_Session_ask_branch : DOk P w K mg base (L2.CX P w) 4 (mad K "Session" "ask_branch") p_Session_ask_branch sp_Session_ask_branch) {sp_demand : Sp} (G_demand : DOk P w K mg base (L2.CX P w) 3 (gad K "demand") p_demand sp_demand) {f : Addr} {cdv : Value} {A : Around} {outer : List Env} {s : Shared} {H : Hp} {E : XK} (hr : Room 4 (A.deeper (envOfC "Session.fork" (defScope s_Session_fork) s.heap.objs.size f cdv))) :
    PSs (cxOf (L2.CX P w) P w K mg base N_Session_fork "Session.fork" (defScope s_Session_fork) f cdv A outer s H E) (defBody s_Session_fork) (t_Session_fork K P w E sp_Session_ask_branch sp_demand) :=
  (pss_cons (ps_expr (pe_mcall G_Session_ask_branch (hr.mono (by decide)) T.cl_Session T.m_Session_ask_branch (passes_call (takes_of rfl rfl rfl rfl) (fun _ _ _ _ h => h)) (pv 0) (by exact (pa_cons (pv 1) pa_nil))))
      (pss_cons (ps_expr (pe_fcall G_demand (hr.mono (by decide)) T.g_demand (passes_call (takes_of rfl rfl rfl rfl) (fun _ _ _ _ h => h)) (by exact (pa_cons (pe_cmpR op_lt (pe_callB c_len (by rfl) T.n_len PySem.boot_len (pa_cons (pe_fld (pv 0) rfl) pa_nil)) (pe_gint rfl T.i_MOST_BRANCHES) (nomark _)) (pa_cons (pe_gint rfl T.i_TOO_MANY) pa_nil)))))
      (PSs.nox (pss_cons (ps_expr (pe_bm PySem.F.plainAttrs_list PySem.F.slot_list_append PySem.F.type_list_append mt_append (pe_fld (pv 0) rfl) (pa_cons (pe_callTy c_list (by rfl) T.n_list (by decide +kernel) (pa_cons (pe_ix ix_list (pe_fld (pv 0) rfl) (pv 1) (fun _ _ => rfl)) pa_nil)) pa_nil)))
      (pss_one (ps_ret (pe_lst (pa_cons (pe_op op_sub (pe_callB c_len (by rfl) T.n_len PySem.boot_len (pa_cons (pe_fld (pv 0) rfl) pa_nil)) pe_int) pa_nil))))))))
theorem ok_of_Session_fork (T : Txt K mg) {sp_Session_ask_branch : Sp} (G_Session_ask_branch : DOk P w K mg base (L2.CX P w) 4 (mad K "Session" "ask_branch") p_Session_ask_branch sp_Session_ask_branch) {sp_demand : Sp} (G_demand : DOk P w K mg base (L2.CX P w) 3 (gad K "demand") p_demand sp_demand) {sp : Sp} (len : ∀ vs H Q E, sp vs H Q E → vs.length = 2)
    (h : ∀ vs H Q E, sp vs H Q E → t_Session_fork K P w E sp_Session_ask_branch sp_demand { nx := fun _ H' => Q .non H', rt := Q } (start N_Session_fork vs) H) : DOk P w K mg base (L2.CX P w) 5 (mad K "Session" "fork") p_Session_fork sp :=
  dok_of T.F_Session_fork sc_Session_fork len (fun _ _ _ _ _ _ us hl => match us, hl with | [_, _], _ => rfl) fun f cdv A outer s H vs Q E hr q => ⟨_, der_Session_fork T G_Session_ask_branch G_demand hr, h vs H Q E q⟩
abbrev s_Session_write : Stmt := inClass (topS 35) 10
abbrev N_Session_write : List Str := ["self", "branch", "numbers", "lines", "order", "old", "line", "position"]
abbrev p_Session_write : List Str := ["self", "branch", "numbers"]
theorem sc_Session_write : FnScope N_Session_write p_Session_write (defScope s_Session_write) := ⟨rfl, rfl, rfl, by decide +kernel, rfl, by decide +kernel, by decide +kernel⟩
def t_Session_write (K : PySem.W.Frag) (P : Program) (w : World) (E : XK) (sp_Session_ask_branch : Sp) (sp_lines_in : Sp) (sp_demand : Sp) (sp_Session_order : Sp) (sp_Order_conflicts : Sp) (sp_Session_line_at : Sp) (sp_Session_ask_room : Sp) (sp_Session_record : Sp) (sp_written_change : Sp) : TS :=
  (tSeq (tDrop (tMeth (gad K "Session") "ask_branch" sp_Session_ask_branch [] E (tVar 0) (tCons (tVar 1) tNil)))
    (tSeq (tAsg (tCall sp_lines_in [] E0 (tCons (tVar 2) tNil)) (gName 3))
    (tSeq (tDrop (tCall sp_demand [] E (tCons (tAndV (tOp rLeI (tCB (rLen K) (tCons (tVar 3) tNil)) (tC (.int (8)))) (tCB (rAll K) (tCons (tLc (iList K (tVar 3)) (gName 6) tYes (tOp rLeI (tCB (rLen K) (tCons (tVar 6) tNil)) (tC (.int (12)))) [6]) tNil))) (tCons (tC (.int (-1))) tNil))))
    (tSeq (tAsg (tMeth (gad K "Session") "order" sp_Session_order [] E0 (tVar 0) (tCons (tVar 1) tNil)) (gName 4))
    (tSeq (tDrop (tCall sp_demand [] E (tCons (tOp (rEqD K) (tMeth (gad K "Order") "conflicts" sp_Order_conflicts [] E0 (tVar 4) tNil) (tLst tNil)) (tCons (tC (.int (-5))) tNil))))
    (tSeq (tAsg (tLc (iList K (tFld K (tVar 4) "lines")) (gName 7) tYes (tMeth (gad K "Session") "line_at" sp_Session_line_at [] E0 (tVar 0) (tCons (tVar 7) tNil)) [7]) (gName 5))
    (tSeq (tDrop (tCall sp_demand [] E (tCons (tOp (rNeD K) (tVar 5) (tVar 3)) (tCons (tC (.int (-6))) tNil))))
    (tSeq (tDrop (tMeth (gad K "Session") "ask_room" sp_Session_ask_room [] E (tVar 0) tNil))
    (tRet (tMeth (gad K "Session") "record" sp_Session_record [] E0 (tVar 0) (tCons (tVar 1) (tCons (tCall sp_written_change [] E0 (tCons (tCB (rLen K) (tCons (tFld K (tVar 0) "made") tNil)) (tCons (tFld K (tVar 4) "lines") (tCons (tVar 5) (tCons (tVar 3) tNil))))) tNil))))))))))))
theorem der_Session_write (T : Txt K mg) {sp_Session_ask_branch : Sp} (G_Session_ask_branch : DOk P w K mg base (L2.CX P w) 4 (mad K "Session" "ask_branch") p_Session_ask_branch sp_Session_ask_branch) {sp_lines_in : Sp} (G_lines_in : DOk P w K mg base CX0 1 (gad K "lines_in") p_lines_in sp_lines_in) {sp_demand : Sp} (G_demand : DOk P w K mg base (L2.CX P w) 3 (gad K "demand") p_demand sp_demand) {sp_Session_order : Sp} (G_Session_order : DOk P w K mg base CX0 5 (mad K "Session" "order") p_Session_order sp_Session_order) {sp_Order_conflicts : Sp} (G_Order_conflicts : DOk P w K mg base CX0 2 (mad K "Order" "conflicts") p_Order_conflicts sp_Order_conflicts) {sp_Session_line_at : Sp} (G_Session_line_at : DOk P w K mg base CX0 1 (mad K "Session" "line_at") p_Session_line_at sp_Session_line_at) {sp_Session_ask_room : Sp} (G_Session_ask_room : DOk P w K mg base (L2.CX P w) 4 (mad K "Session" "ask_room") p_Session_ask_room sp_Session_ask_room) {sp_Session_record : Sp} (G_Session_record : DOk P w K mg base CX0 2 (mad K "Session" "record") p_Session_record sp_Session_record) {sp_written_change : Sp} (G_written_change : DOk P w K mg base CX0 4 (gad K "written_change") p_written_change sp_written_change) {f : Addr} {cdv : Value} {A : Around} {outer : List Env} {s : Shared} {H : Hp} {E : XK} (hr : Room 5 (A.deeper (envOfC "Session.write" (defScope s_Session_write) s.heap.objs.size f cdv))) :
    PSs (cxOf (L2.CX P w) P w K mg base N_Session_write "Session.write" (defScope s_Session_write) f cdv A outer s H E) (defBody s_Session_write) (t_Session_write K P w E sp_Session_ask_branch sp_lines_in sp_demand sp_Session_order sp_Order_conflicts sp_Session_line_at sp_Session_ask_room sp_Session_record sp_written_change) :=
  (pss_cons (ps_expr (pe_mcall G_Session_ask_branch (hr.mono (by decide)) T.cl_Session T.m_Session_ask_branch (passes_call (takes_of rfl rfl rfl rfl) (fun _ _ _ _ h => h)) (pv 0) (by exact (pa_cons (pv 1) pa_nil))))
      (pss_cons (ps_set (i := 3) sc_Session_write.nd rfl (Or.inl rfl) (pe_fcall G_lines_in (hr.mono (by decide)) T.g_lines_in pass0 (by exact (pa_cons (pv 2) pa_nil))))
      (pss_cons (ps_expr (pe_fcall G_demand (hr.mono (by decide)) T.g_demand (passes_call (takes_of rfl rfl rfl rfl) (fun _ _ _ _ h => h)) (by exact (pa_cons (pe_and (pe_cmpR op_le (pe_callB c_len (by rfl) T.n_len PySem.boot_len (pa_cons (pv 3) pa_nil)) (pe_gint rfl T.i_MOST_LINES) (nomark _)) (pe_one (pe_callB (cr_all rfl) (by rfl) T.n_all (by decide +kernel) (pa_cons (pe_lc (own := [("line", 6)]) rfl sc_Session_write.nd (pi_list (pv 3)) (blkOk_by (own := [("line", 6)]) (N := N_Session_write) (sc := defScope s_Session_write) (by decide +kernel)) (fun _ _ _ _ _ => (pg_name (i := 6) sc_Session_write.nd rfl (Or.inl rfl))) (fun _ _ _ _ _ => pts_nil) (fun _ _ _ _ _ => (pe_cmpR op_le (pe_callB c_len (by rfl) T.n_len PySem.boot_len (pa_cons (pv 6) pa_nil)) (pe_gint rfl T.i_MOST_BYTES) (nomark _)))) pa_nil)))) (pa_cons (pe_gint rfl T.i_LIMITS) pa_nil)))))
      (pss_cons (ps_set (i := 4) sc_Session_write.nd rfl (Or.inl rfl) (pe_mcall G_Session_order (hr.mono (by decide)) T.cl_Session T.m_Session_order pass0 (pv 0) (by exact (pa_cons (pv 1) pa_nil))))
      (pss_cons (ps_expr (pe_fcall G_demand (hr.mono (by decide)) T.g_demand (passes_call (takes_of rfl rfl rfl rfl) (fun _ _ _ _ h => h)) (by exact (pa_cons (pe_cmpR (op_eqD hr.units) (pe_mcall0 G_Order_conflicts (hr.mono (by decide)) T.cl_Order T.m_Order_conflicts pass0 (pv 4)) (pe_lst pa_nil) (nomark _)) (pa_cons (pe_gint rfl T.i_CONFLICTS) pa_nil)))))
      (pss_cons (ps_setLc (i := 5) (own := [("position", 7)]) rfl sc_Session_write.nd rfl rfl (sw_true rfl rfl rfl (by decide +kernel)) (pi_list (pe_fld (pv 4) rfl)) (blkOk_by (own := [("position", 7)]) (N := N_Session_write) (sc := defScope s_Session_write) (by decide +kernel)) (fun _ _ _ _ _ => (pg_name (i := 7) sc_Session_write.nd rfl (Or.inl rfl))) (fun _ _ _ _ _ => pts_nil) (fun _ _ _ _ _ => (pe_mcall G_Session_line_at (hr.mono (by decide)) T.cl_Session T.m_Session_line_at pass0 (pv 0) (by exact (pa_cons (pv 7) pa_nil)))))
      (pss_cons (ps_expr (pe_fcall G_demand (hr.mono (by decide)) T.g_demand (passes_call (takes_of rfl rfl rfl rfl) (fun _ _ _ _ h => h)) (by exact (pa_cons (pe_cmpR (op_neD hr.units) (pv 5) (pv 3) (nomark _)) (pa_cons (pe_gint rfl T.i_NOTHING) pa_nil)))))
      (pss_cons (ps_expr (pe_mcall0 G_Session_ask_room (hr.mono (by decide)) T.cl_Session T.m_Session_ask_room (passes_call (takes_of rfl rfl rfl rfl) (fun _ _ _ _ h => h)) (pv 0)))
      (PSs.nox (pss_one (ps_ret (pe_mcall G_Session_record (hr.mono (by decide)) T.cl_Session T.m_Session_record pass0 (pv 0) (by exact (pa_cons (pv 1) (pa_cons (pe_fcall G_written_change (hr.mono (by decide)) T.g_written_change pass0 (by exact (pa_cons (pe_callB c_len (by rfl) T.n_len PySem.boot_len (pa_cons (pe_fld (pv 0) rfl) pa_nil)) (pa_cons (pe_fld (pv 4) rfl) (pa_cons (pv 5) (pa_cons (pv 3) pa_nil)))))) pa_nil)))))))))))))))
theorem ok_of_Session_write (T : Txt K mg) {sp_Session_ask_branch : Sp} (G_Session_ask_branch : DOk P w K mg base (L2.CX P w) 4 (mad K "Session" "ask_branch") p_Session_ask_branch sp_Session_ask_branch) {sp_lines_in : Sp} (G_lines_in : DOk P w K mg base CX0 1 (gad K "lines_in") p_lines_in sp_lines_in) {sp_demand : Sp} (G_demand : DOk P w K mg base (L2.CX P w) 3 (gad K "demand") p_demand sp_demand) {sp_Session_order : Sp} (G_Session_order : DOk P w K mg base CX0 5 (mad K "Session" "order") p_Session_order sp_Session_order) {sp_Order_conflicts : Sp} (G_Order_conflicts : DOk P w K mg base CX0 2 (mad K "Order" "conflicts") p_Order_conflicts sp_Order_conflicts) {sp_Session_line_at : Sp} (G_Session_line_at : DOk P w K mg base CX0 1 (mad K "Session" "line_at") p_Session_line_at sp_Session_line_at) {sp_Session_ask_room : Sp} (G_Session_ask_room : DOk P w K mg base (L2.CX P w) 4 (mad K "Session" "ask_room") p_Session_ask_room sp_Session_ask_room) {sp_Session_record : Sp} (G_Session_record : DOk P w K mg base CX0 2 (mad K "Session" "record") p_Session_record sp_Session_record) {sp_written_change : Sp} (G_written_change : DOk P w K mg base CX0 4 (gad K "written_change") p_written_change sp_written_change) {sp : Sp} (len : ∀ vs H Q E, sp vs H Q E → vs.length = 3)
    (h : ∀ vs H Q E, sp vs H Q E → t_Session_write K P w E sp_Session_ask_branch sp_lines_in sp_demand sp_Session_order sp_Order_conflicts sp_Session_line_at sp_Session_ask_room sp_Session_record sp_written_change { nx := fun _ H' => Q .non H', rt := Q } (start N_Session_write vs) H) : DOk P w K mg base (L2.CX P w) 6 (mad K "Session" "write") p_Session_write sp :=
  dok_of T.F_Session_write sc_Session_write len (fun _ _ _ _ _ _ us hl => match us, hl with | [_, _, _], _ => rfl) fun f cdv A outer s H vs Q E hr q => ⟨_, der_Session_write T G_Session_ask_branch G_lines_in G_demand G_Session_order G_Order_conflicts G_Session_line_at G_Session_ask_room G_Session_record G_written_change hr, h vs H Q E q⟩
abbrev s_Session_delete : Stmt := inClass (topS 35) 11
abbrev N_Session_delete : List Str := ["self", "branch", "numbers", "places", "visible", "position"]
abbrev p_Session_delete : List Str := ["self", "branch", "numbers"]
theorem sc_Session_delete : FnScope N_Session_delete p_Session_delete (defScope s_Session_delete) := ⟨rfl, rfl, rfl, by decide +kernel, rfl, by decide +kernel, by decide +kernel⟩
def t_Session_delete (K : PySem.W.Frag) (P : Program) (w : World) (E : XK) (sp_Session_ask_branch : Sp) (sp_pairs_in : Sp) (sp_demand : Sp) (sp_Session_order : Sp) (sp_Session_ask_room : Sp) (sp_Session_record : Sp) (sp_Change_init : Sp) : TS :=
  (tSeq (tDrop (tMeth (gad K "Session") "ask_branch" sp_Session_ask_branch [] E (tVar 0) (tCons (tVar 1) tNil)))
    (tSeq (tAsg (tCall sp_pairs_in [] E0 (tCons (tVar 2) tNil)) (gName 3))
    (tSeq (tDrop (tCall sp_demand [] E (tCons (tAndV (tOp (rNeD K) (tVar 3) (tLst tNil)) (tOp rEq (tCB (rLenSetT P w) (tCons (tCB (rSetT K P w) (tCons (tVar 3) tNil)) tNil)) (tCB (rLen K) (tCons (tVar 3) tNil)))) (tCons (tC (.int (-3))) tNil))))
    (tSeq (tAsg (tFld K (tMeth (gad K "Session") "order" sp_Session_order [] E0 (tVar 0) (tCons (tVar 1) tNil)) "lines") (gName 4))
    (tSeq (tDrop (tCall sp_demand [] E (tCons (tCB (rAll K) (tCons (tLc (iList K (tVar 3)) (gName 5) tYes (tOp (rInD K) (tVar 5) (tVar 4)) [5]) tNil)) (tCons (tC (.int (-3))) tNil))))
    (tSeq (tDrop (tMeth (gad K "Session") "ask_room" sp_Session_ask_room [] E (tVar 0) tNil))
    (tRet (tMeth (gad K "Session") "record" sp_Session_record [] E0 (tVar 0) (tCons (tVar 1) (tCons (tMake (gad K "Change") sp_Change_init [] E0 (tCons (tCB (rLen K) (tCons (tFld K (tVar 0) "made") tNil)) (tCons (tLst tNil) (tCons (tVar 3) tNil)))) tNil))))))))))
theorem der_Session_delete (T : Txt K mg) {sp_Session_ask_branch : Sp} (G_Session_ask_branch : DOk P w K mg base (L2.CX P w) 4 (mad K "Session" "ask_branch") p_Session_ask_branch sp_Session_ask_branch) {sp_pairs_in : Sp} (G_pairs_in : DOk P w K mg base CX0 1 (gad K "pairs_in") p_pairs_in sp_pairs_in) {sp_demand : Sp} (G_demand : DOk P w K mg base (L2.CX P w) 3 (gad K "demand") p_demand sp_demand) {sp_Session_order : Sp} (G_Session_order : DOk P w K mg base CX0 5 (mad K "Session" "order") p_Session_order sp_Session_order) {sp_Session_ask_room : Sp} (G_Session_ask_room : DOk P w K mg base (L2.CX P w) 4 (mad K "Session" "ask_room") p_Session_ask_room sp_Session_ask_room) {sp_Session_record : Sp} (G_Session_record : DOk P w K mg base CX0 2 (mad K "Session" "record") p_Session_record sp_Session_record) {sp_Change_init : Sp} (G_Change_init : DOk P w K mg base CX0 1 (mad K "Change" "__init__") p_Change_init sp_Change_init) {f : Addr} {cdv : Value} {A : Around} {outer : List Env} {s : Shared} {H : Hp} {E : XK} (hr : Room 5 (A.deeper (envOfC "Session.delete" (defScope s_Session_delete) s.heap.objs.size f cdv))) :
    PSs (cxOf (L2.CX P w) P w K mg base N_Session_delete "Session.delete" (defScope s_Session_delete) f cdv A outer s H E) (defBody s_Session_delete) (t_Session_delete K P w E sp_Session_ask_branch sp_pairs_in sp_demand sp_Session_order sp_Session_ask_room sp_Session_record sp_Change_init) :=
  (pss_cons (ps_expr (pe_mcall G_Session_ask_branch (hr.mono (by decide)) T.cl_Session T.m_Session_ask_branch (passes_call (takes_of rfl rfl rfl rfl) (fun _ _ _ _ h => h)) (pv 0) (by exact (pa_cons (pv 1) pa_nil))))
      (pss_cons (ps_set (i := 3) sc_Session_delete.nd rfl (Or.inl rfl) (pe_fcall G_pairs_in (hr.mono (by decide)) T.g_pairs_in pass0 (by exact (pa_cons (pv 2) pa_nil))))
      (pss_cons (ps_expr (pe_fcall G_demand (hr.mono (by decide)) T.g_demand (passes_call (takes_of rfl rfl rfl rfl) (fun _ _ _ _ h => h)) (by exact (pa_cons (pe_and (pe_cmpR (op_neD hr.units) (pv 3) (pe_lst pa_nil) (nomark _)) (pe_one (pe_cmpR op_eq (pe_callB c_lenSetT (by rfl) T.n_len PySem.boot_len (pa_cons (pe_callTy (c_setT rfl hr.units) (by rfl) T.n_set (by decide +kernel) (pa_cons (pv 3) pa_nil)) pa_nil)) (pe_callB c_len (by rfl) T.n_len PySem.boot_len (pa_cons (pv 3) pa_nil)) (nomark _)))) (pa_cons (pe_gint rfl T.i_NOT_THERE) pa_nil)))))
      (pss_cons (ps_set (i := 4) sc_Session_delete.nd rfl (Or.inr rfl) (pe_fld (pe_mcall G_Session_order (hr.mono (by decide)) T.cl_Session T.m_Session_order pass0 (pv 0) (by exact (pa_cons (pv 1) pa_nil))) rfl))
      (pss_cons (ps_expr (pe_fcall G_demand (hr.mono (by decide)) T.g_demand (passes_call (takes_of rfl rfl rfl rfl) (fun _ _ _ _ h => h)) (by exact (pa_cons (pe_callB (cr_all rfl) (by rfl) T.n_all (by decide +kernel) (pa_cons (pe_lc (own := [("position", 5)]) rfl sc_Session_delete.nd (pi_list (pv 3)) (blkOk_by (own := [("position", 5)]) (N := N_Session_delete) (sc := defScope s_Session_delete) (by decide +kernel)) (fun _ _ _ _ _ => (pg_name (i := 5) sc_Session_delete.nd rfl (Or.inl rfl))) (fun _ _ _ _ _ => pts_nil) (fun _ _ _ _ _ => (pe_cmpR (op_inD (hu65 hr)) (pv 5) (pv 4) (by rfl)))) pa_nil)) (pa_cons (pe_gint rfl T.i_NOT_THERE) pa_nil)))))
      (pss_cons (ps_expr (pe_mcall0 G_Session_ask_room (hr.mono (by decide)) T.cl_Session T.m_Session_ask_room (passes_call (takes_of rfl rfl rfl rfl) (fun _ _ _ _ h => h)) (pv 0)))
      (PSs.nox (pss_one (ps_ret (pe_mcall G_Session_record (hr.mono (by decide)) T.cl_Session T.m_Session_record pass0 (pv 0) (by exact (pa_cons (pv 1) (pa_cons (pe_mnew G_Change_init T.k_Change (hr.mono (by decide)) T.g_Change pass0 (by exact (pa_cons (pe_callB c_len (by rfl) T.n_len PySem.boot_len (pa_cons (pe_fld (pv 0) rfl) pa_nil)) (pa_cons (pe_lst pa_nil) (pa_cons (pv 3) pa_nil))))) pa_nil)))))))))))))
theorem ok_of_Session_delete (T : Txt K mg) {sp_Session_ask_branch : Sp} (G_Session_ask_branch : DOk P w K mg base (L2.CX P w) 4 (mad K "Session" "ask_branch") p_Session_ask_branch sp_Session_ask_branch) {sp_pairs_in : Sp} (G_pairs_in : DOk P w K mg base CX0 1 (gad K "pairs_in") p_pairs_in sp_pairs_in) {sp_demand : Sp} (G_demand : DOk P w K mg base (L2.CX P w) 3 (gad K "demand") p_demand sp_demand) {sp_Session_order : Sp} (G_Session_order : DOk P w K mg base CX0 5 (mad K "Session" "order") p_Session_order sp_Session_order) {sp_Session_ask_room : Sp} (G_Session_ask_room : DOk P w K mg base (L2.CX P w) 4 (mad K "Session" "ask_room") p_Session_ask_room sp_Session_ask_room) {sp_Session_record : Sp} (G_Session_record : DOk P w K mg base CX0 2 (mad K "Session" "record") p_Session_record sp_Session_record) {sp_Change_init : Sp} (G_Change_init : DOk P w K mg base CX0 1 (mad K "Change" "__init__") p_Change_init sp_Change_init) {sp : Sp} (len : ∀ vs H Q E, sp vs H Q E → vs.length = 3)
    (h : ∀ vs H Q E, sp vs H Q E → t_Session_delete K P w E sp_Session_ask_branch sp_pairs_in sp_demand sp_Session_order sp_Session_ask_room sp_Session_record sp_Change_init { nx := fun _ H' => Q .non H', rt := Q } (start N_Session_delete vs) H) : DOk P w K mg base (L2.CX P w) 6 (mad K "Session" "delete") p_Session_delete sp :=
  dok_of T.F_Session_delete sc_Session_delete len (fun _ _ _ _ _ _ us hl => match us, hl with | [_, _, _], _ => rfl) fun f cdv A outer s H vs Q E hr q => ⟨_, der_Session_delete T G_Session_ask_branch G_pairs_in G_demand G_Session_order G_Session_ask_room G_Session_record G_Change_init hr, h vs H Q E q⟩
abbrev s_Session_apply : Stmt := inClass (topS 35) 12
abbrev N_Session_apply : List Str := ["self", "branch", "number", "own", "missing", "one"]
abbrev p_Session_apply : List Str := ["self", "branch", "number"]
theorem sc_Session_apply : FnScope N_Session_apply p_Session_apply (defScope s_Session_apply) := ⟨rfl, rfl, rfl, by decide +kernel, rfl, by decide +kernel, by decide +kernel⟩
def t_Session_apply (K : PySem.W.Frag) (P : Program) (w : World) (E : XK) (sp_Session_ask_branch : Sp) (sp_Session_ask_change : Sp) (sp_demand : Sp) (sp_Change_dependencies : Sp) (sp_told_row : Sp) (sp_Session_add : Sp) : TS :=
  (tSeq (tDrop (tMeth (gad K "Session") "ask_branch" sp_Session_ask_branch [] E (tVar 0) (tCons (tVar 1) tNil)))
    (tSeq (tDrop (tMeth (gad K "Session") "ask_change" sp_Session_ask_change [] E (tVar 0) (tCons (tVar 2) tNil)))
    (tSeq (tAsg (tOp (rIxL K) (tFld K (tVar 0) "branches") (tVar 1)) (gName 3))
    (tSeq (tDrop (tCall sp_demand [] E (tCons (tOp (rIn K true) (tVar 2) (tVar 3)) (tCons (tC (.int (-6))) tNil))))
    (tSeq (tAsg (tLc (iList K (tMeth (gad K "Change") "dependencies" sp_Change_dependencies [] E0 (tOp (rIxL K) (tFld K (tVar 0) "made") (tVar 2)) tNil)) (gName 5) (tTest (tOp (rIn K true) (tVar 5) (tVar 3))) (tVar 5) [5]) (gName 4))
    (tSeq (tIfS (tTest (tOp (rNeD K) (tVar 4) (tLst tNil))) (tRaiseRef (gad K "Refused") (fun cls d _ H => E cls d H) (tCons (tOp rCat (tLst (tCons (tC (.int (-4))) tNil)) (tCall sp_told_row [] E0 (tCons (tVar 4) tNil))) tNil)) tNext)
    (tSeq (tDrop (tMeth (gad K "Session") "add" sp_Session_add [] E0 (tVar 0) (tCons (tVar 1) (tCons (tLst (tCons (tVar 2) tNil)) tNil))))
    (tRet (tLst (tCons (tCB (rLen K) (tCons (tOp (rIxL K) (tFld K (tVar 0) "branches") (tVar 1)) tNil)) tNil))))))))))
theorem der_Session_apply (T : Txt K mg) {sp_Session_ask_branch : Sp} (G_Session_ask_branch : DOk P w K mg base (L2.CX P w) 4 (mad K "Session" "ask_branch") p_Session_ask_branch sp_Session_ask_branch) {sp_Session_ask_change : Sp} (G_Session_ask_change : DOk P w K mg base (L2.CX P w) 4 (mad K "Session" "ask_change") p_Session_ask_change sp_Session_ask_change) {sp_demand : Sp} (G_demand : DOk P w K mg base (L2.CX P w) 3 (gad K "demand") p_demand sp_demand) {sp_Change_dependencies : Sp} (G_Change_dependencies : DOk P w K mg base CX0 1 (mad K "Change" "dependencies") p_Change_dependencies sp_Change_dependencies) {sp_told_row : Sp} (G_told_row : DOk P w K mg base CX0 1 (gad K "told_row") p_told_row sp_told_row) {sp_Session_add : Sp} (G_Session_add : DOk P w K mg base CX0 1 (mad K "Session" "add") p_Session_add sp_Session_add) {f : Addr} {cdv : Value} {A : Around} {outer : List Env} {s : Shared} {H : Hp} {E : XK} (hr : Room 4 (A.deeper (envOfC "Session.apply" (defScope s_Session_apply) s.heap.objs.size f cdv))) :
    PSs (cxOf (L2.CX P w) P w K mg base N_Session_apply "Session.apply" (defScope s_Session_apply) f cdv A outer s H E) (defBody s_Session_apply) (t_Session_apply K P w E sp_Session_ask_branch sp_Session_ask_change sp_demand sp_Change_dependencies sp_told_row sp_Session_add) :=
  (pss_cons (ps_expr (pe_mcall G_Session_ask_branch (hr.mono (by decide)) T.cl_Session T.m_Session_ask_branch (passes_call (takes_of rfl rfl rfl rfl) (fun _ _ _ _ h => h)) (pv 0) (by exact (pa_cons (pv 1) pa_nil))))
      (pss_cons (ps_expr (pe_mcall G_Session_ask_change (hr.mono (by decide)) T.cl_Session T.m_Session_ask_change (passes_call (takes_of rfl rfl rfl rfl) (fun _ _ _ _ h => h)) (pv 0) (by exact (pa_cons (pv 2) pa_nil))))
      (pss_cons (ps_set (i := 3) sc_Session_apply.nd rfl (Or.inr rfl) (pe_ix ix_list (pe_fld (pv 0) rfl) (pv 1) (fun _ _ => rfl)))
      (pss_cons (ps_expr (pe_fcall G_demand (hr.mono (by decide)) T.g_demand (passes_call (takes_of rfl rfl rfl rfl) (fun _ _ _ _ h => h)) (by exact (pa_cons (pe_cmpR op_notIn_seq (pv 2) (pv 3) (by rfl)) (pa_cons (pe_gint rfl T.i_NOTHING) pa_nil)))))
      (pss_cons (ps_setLc (i := 4) (own := [("one", 5)]) rfl sc_Session_apply.nd rfl rfl (sw_true rfl rfl rfl (by decide +kernel)) (pi_list (pe_mcall0 G_Change_dependencies (hr.mono (by decide)) T.cl_Change T.m_Change_dependencies pass0 (pe_ix ix_list (pe_fld (pv 0) rfl) (pv 2) (fun _ _ => rfl)))) (blkOk_by (own := [("one", 5)]) (N := N_Session_apply) (sc := defScope s_Session_apply) (by decide +kernel)) (fun _ _ _ _ _ => (pg_name (i := 5) sc_Session_apply.nd rfl (Or.inl rfl))) (fun _ _ _ _ _ => (pts_one (pt_cmpR op_notIn_seq (pv 5) (pv 3) (by rfl)))) (fun _ _ _ _ _ => (pv 5)))
      (pss_cons (ps_if (pt_cmpR (op_neD hr.units) (pv 4) (pe_lst pa_nil) (nomark _)) (pss_one (ps_raiseRef rfl T.refx hr (takes_of rfl rfl rfl rfl) (by exact (pa_cons (pe_op op_cat (pe_lst (pa_cons (pe_gint rfl T.i_DEPENDENCIES) pa_nil)) (pe_fcall G_told_row (hr.mono (by decide)) T.g_told_row pass0 (by exact (pa_cons (pv 4) pa_nil)))) pa_nil)))) pss_nil)
      (PSs.nox (pss_cons (ps_expr (pe_mcall G_Session_add (hr.mono (by decide)) T.cl_Session T.m_Session_add pass0 (pv 0) (by exact (pa_cons (pv 1) (pa_cons (pe_lst (pa_cons (pv 2) pa_nil)) pa_nil)))))
      (pss_one (ps_ret (pe_lst (pa_cons (pe_callB c_len (by rfl) T.n_len PySem.boot_len (pa_cons (pe_ix ix_list (pe_fld (pv 0) rfl) (pv 1) (fun _ _ => rfl)) pa_nil)) pa_nil))))))))))))
theorem ok_of_Session_apply (T : Txt K mg) {sp_Session_ask_branch : Sp} (G_Session_ask_branch : DOk P w K mg base (L2.CX P w) 4 (mad K "Session" "ask_branch") p_Session_ask_branch sp_Session_ask_branch) {sp_Session_ask_change : Sp} (G_Session_ask_change : DOk P w K mg base (L2.CX P w) 4 (mad K "Session" "ask_change") p_Session_ask_change sp_Session_ask_change) {sp_demand : Sp} (G_demand : DOk P w K mg base (L2.CX P w) 3 (gad K "demand") p_demand sp_demand) {sp_Change_dependencies : Sp} (G_Change_dependencies : DOk P w K mg base CX0 1 (mad K "Change" "dependencies") p_Change_dependencies sp_Change_dependencies) {sp_told_row : Sp} (G_told_row : DOk P w K mg base CX0 1 (gad K "told_row") p_told_row sp_told_row) {sp_Session_add : Sp} (G_Session_add : DOk P w K mg base CX0 1 (mad K "Session" "add") p_Session_add sp_Session_add) {sp : Sp} (len : ∀ vs H Q E, sp vs H Q E → vs.length = 3)
    (h : ∀ vs H Q E, sp vs H Q E → t_Session_apply K P w E sp_Session_ask_branch sp_Session_ask_change sp_demand sp_Change_dependencies sp_told_row sp_Session_add { nx := fun _ H' => Q .non H', rt := Q } (start N_Session_apply vs) H) : DOk P w K mg base (L2.CX P w) 5 (mad K "Session" "apply") p_Session_apply sp :=
  dok_of T.F_Session_apply sc_Session_apply len (fun _ _ _ _ _ _ us hl => match us, hl with | [_, _, _], _ => rfl) fun f cdv A outer s H vs Q E hr q => ⟨_, der_Session_apply T G_Session_ask_branch G_Session_ask_change G_demand G_Change_dependencies G_told_row G_Session_add hr, h vs H Q E q⟩
abbrev s_Session_merge : Stmt := inClass (topS 35) 13
abbrev N_Session_merge : List Str := ["self", "branch", "other", "many"]
abbrev p_Session_merge : List Str := ["self", "branch", "other"]
theorem sc_Session_merge : FnScope N_Session_merge p_Session_merge (defScope s_Session_merge) := ⟨rfl, rfl, rfl, by decide +kernel, rfl, by decide +kernel, by decide +kernel⟩
def t_Session_merge (K : PySem.W.Frag) (P : Program) (w : World) (E : XK) (sp_Session_ask_branch : Sp) (sp_Session_add : Sp) : TS :=
  (tSeq (tDrop (tMeth (gad K "Session") "ask_branch" sp_Session_ask_branch [] E (tVar 0) (tCons (tVar 1) tNil)))
    (tSeq (tDrop (tMeth (gad K "Session") "ask_branch" sp_Session_ask_branch [] E (tVar 0) (tCons (tVar 2) tNil)))
    (tSeq (tAsg (tCB (rLen K) (tCons (tOp (rIxL K) (tFld K (tVar 0) "branches") (tVar 1)) tNil)) (gName 3))
    (tSeq (tDrop (tMeth (gad K "Session") "add" sp_Session_add [] E0 (tVar 0) (tCons (tVar 1) (tCons (tOp (rIxL K) (tFld K (tVar 0) "branches") (tVar 2)) tNil))))
    (tRet (tLst (tCons (tOp rSubI (tCB (rLen K) (tCons (tOp (rIxL K) (tFld K (tVar 0) "branches") (tVar 1)) tNil)) (tVar 3)) tNil)))))))
theorem der_Session_merge (T : Txt K mg) {sp_Session_ask_branch : Sp} (G_Session_ask_branch : DOk P w K mg base (L2.CX P w) 4 (mad K "Session" "ask_branch") p_Session_ask_branch sp_Session_ask_branch) {sp_Session_add : Sp} (G_Session_add : DOk P w K mg base CX0 1 (mad K "Session" "add") p_Session_add sp_Session_add) {f : Addr} {cdv : Value} {A : Around} {outer : List Env} {s : Shared} {H : Hp} {E : XK} (hr : Room 4 (A.deeper (envOfC "Session.merge" (defScope s_Session_merge) s.heap.objs.size f cdv))) :
    PSs (cxOf (L2.CX P w) P w K mg base N_Session_merge "Session.merge" (defScope s_Session_merge) f cdv A outer s H E) (defBody s_Session_merge) (t_Session_merge K P w E sp_Session_ask_branch sp_Session_add) :=
  (pss_cons (ps_expr (pe_mcall G_Session_ask_branch (hr.mono (by decide)) T.cl_Session T.m_Session_ask_branch (passes_call (takes_of rfl rfl rfl rfl) (fun _ _ _ _ h => h)) (pv 0) (by exact (pa_cons (pv 1) pa_nil))))
      (pss_cons (ps_expr (pe_mcall G_Session_ask_branch (hr.mono (by decide)) T.cl_Session T.m_Session_ask_branch (passes_call (takes_of rfl rfl rfl rfl) (fun _ _ _ _ h => h)) (pv 0) (by exact (pa_cons (pv 2) pa_nil))))
      (PSs.nox (pss_cons (ps_set (i := 3) sc_Session_merge.nd rfl (Or.inl rfl) (pe_callB c_len (by rfl) T.n_len PySem.boot_len (pa_cons (pe_ix ix_list (pe_fld (pv 0) rfl) (pv 1) (fun _ _ => rfl)) pa_nil)))
      (pss_cons (ps_expr (pe_mcall G_Session_add (hr.mono (by decide)) T.cl_Session T.m_Session_add pass0 (pv 0) (by exact (pa_cons (pv 1) (pa_cons (pe_ix ix_list (pe_fld (pv 0) rfl) (pv 2) (fun _ _ => rfl)) pa_nil)))))
      (pss_one (ps_ret (pe_lst (pa_cons (pe_op op_sub (pe_callB c_len (by rfl) T.n_len PySem.boot_len (pa_cons (pe_ix ix_list (pe_fld (pv 0) rfl) (pv 1) (fun _ _ => rfl)) pa_nil)) (pv 3)) pa_nil)))))))))
theorem ok_of_Session_merge (T : Txt K mg) {sp_Session_ask_branch : Sp} (G_Session_ask_branch : DOk P w K mg base (L2.CX P w) 4 (mad K "Session" "ask_branch") p_Session_ask_branch sp_Session_ask_branch) {sp_Session_add : Sp} (G_Session_add : DOk P w K mg base CX0 1 (mad K "Session" "add") p_Session_add sp_Session_add) {sp : Sp} (len : ∀ vs H Q E, sp vs H Q E → vs.length = 3)
    (h : ∀ vs H Q E, sp vs H Q E → t_Session_merge K P w E sp_Session_ask_branch sp_Session_add { nx := fun _ H' => Q .non H', rt := Q } (start N_Session_merge vs) H) : DOk P w K mg base (L2.CX P w) 5 (mad K "Session" "merge") p_Session_merge sp :=
  dok_of T.F_Session_merge sc_Session_merge len (fun _ _ _ _ _ _ us hl => match us, hl with | [_, _, _], _ => rfl) fun f cdv A outer s H vs Q E hr q => ⟨_, der_Session_merge T G_Session_ask_branch G_Session_add hr, h vs H Q E q⟩
abbrev s_Session_revert : Stmt := inClass (topS 35) 14
abbrev N_Session_revert : List Str := ["self", "branch", "number", "own", "users", "one"]
abbrev p_Session_revert : List Str := ["self", "branch", "number"]
theorem sc_Session_revert : FnScope N_Session_revert p_Session_revert (defScope s_Session_revert) := ⟨rfl, rfl, rfl, by decide +kernel, rfl, by decide +kernel, by decide +kernel⟩
def t_Session_revert (K : PySem.W.Frag) (P : Program) (w : World) (E : XK) (sp_Session_ask_branch : Sp) (sp_demand : Sp) (sp_Change_dependencies : Sp) (sp_told_row : Sp) : TS :=
  (tSeq (tDrop (tMeth (gad K "Session") "ask_branch" sp_Session_ask_branch [] E (tVar 0) (tCons (tVar 1) tNil)))
    (tSeq (tAsg (tOp (rIxL K) (tFld K (tVar 0) "branches") (tVar 1)) (gName 3))
    (tSeq (tDrop (tCall sp_demand [] E (tCons (tOp (rIn K false) (tVar 2) (tVar 3)) (tCons (tC (.int (-6))) tNil))))
    (tSeq (tAsg (tLc (iList K (tVar 3)) (gName 5) (tTest (tOp (rIn K false) (tVar 2) (tMeth (gad K "Change") "dependencies" sp_Change_dependencies [] E0 (tOp (rIxL K) (tFld K (tVar 0) "made") (tVar 5)) tNil))) (tVar 5) [5]) (gName 4))
    (tSeq (tIfS (tTest (tOp (rNeD K) (tVar 4) (tLst tNil))) (tRaiseRef (gad K "Refused") (fun cls d _ H => E cls d H) (tCons (tOp rCat (tLst (tCons (tC (.int (-4))) tNil)) (tCall sp_told_row [] E0 (tCons (tVar 4) tNil))) tNil)) tNext)
    (tSeq (tAsg (tLc (iList K (tVar 3)) (gName 5) (tTest (tOp rNe (tVar 5) (tVar 2))) (tVar 5) [5]) (gSub (tFld K (tVar 0) "branches") (tVar 1) rSetL))
    (tRet (tLst (tCons (tCB (rLen K) (tCons (tOp (rIxL K) (tFld K (tVar 0) "branches") (tVar 1)) tNil)) tNil)))))))))
theorem der_Session_revert (T : Txt K mg) {sp_Session_ask_branch : Sp} (G_Session_ask_branch : DOk P w K mg base (L2.CX P w) 4 (mad K "Session" "ask_branch") p_Session_ask_branch sp_Session_ask_branch) {sp_demand : Sp} (G_demand : DOk P w K mg base (L2.CX P w) 3 (gad K "demand") p_demand sp_demand) {sp_Change_dependencies : Sp} (G_Change_dependencies : DOk P w K mg base CX0 1 (mad K "Change" "dependencies") p_Change_dependencies sp_Change_dependencies) {sp_told_row : Sp} (G_told_row : DOk P w K mg base CX0 1 (gad K "told_row") p_told_row sp_told_row) {f : Addr} {cdv : Value} {A : Around} {outer : List Env} {s : Shared} {H : Hp} {E : XK} (hr : Room 4 (A.deeper (envOfC "Session.revert" (defScope s_Session_revert) s.heap.objs.size f cdv))) :
    PSs (cxOf (L2.CX P w) P w K mg base N_Session_revert "Session.revert" (defScope s_Session_revert) f cdv A outer s H E) (defBody s_Session_revert) (t_Session_revert K P w E sp_Session_ask_branch sp_demand sp_Change_dependencies sp_told_row) :=
  (pss_cons (ps_expr (pe_mcall G_Session_ask_branch (hr.mono (by decide)) T.cl_Session T.m_Session_ask_branch (passes_call (takes_of rfl rfl rfl rfl) (fun _ _ _ _ h => h)) (pv 0) (by exact (pa_cons (pv 1) pa_nil))))
      (pss_cons (ps_set (i := 3) sc_Session_revert.nd rfl (Or.inl rfl) (pe_ix ix_list (pe_fld (pv 0) rfl) (pv 1) (fun _ _ => rfl)))
      (pss_cons (ps_expr (pe_fcall G_demand (hr.mono (by decide)) T.g_demand (passes_call (takes_of rfl rfl rfl rfl) (fun _ _ _ _ h => h)) (by exact (pa_cons (pe_cmpR op_in_seq (pv 2) (pv 3) (by rfl)) (pa_cons (pe_gint rfl T.i_NOTHING) pa_nil)))))
      (pss_cons (ps_setLc (i := 4) (own := [("one", 5)]) rfl sc_Session_revert.nd rfl rfl (sw_true rfl rfl rfl (by decide +kernel)) (pi_list (pv 3)) (blkOk_by (own := [("one", 5)]) (N := N_Session_revert) (sc := defScope s_Session_revert) (by decide +kernel)) (fun _ _ _ _ _ => (pg_name (i := 5) sc_Session_revert.nd rfl (Or.inl rfl))) (fun _ _ _ _ _ => (pts_one (pt_cmpR op_in_seq (pv 2) (pe_mcall0 G_Change_dependencies (hr.mono (by decide)) T.cl_Change T.m_Change_dependencies pass0 (pe_ix ix_list (pe_fld (pv 0) rfl) (pv 5) (fun _ _ => rfl))) (by rfl)))) (fun _ _ _ _ _ => (pv 5)))
      (pss_cons (ps_if (pt_cmpR (op_neD hr.units) (pv 4) (pe_lst pa_nil) (nomark _)) (pss_one (ps_raiseRef rfl T.refx hr (takes_of rfl rfl rfl rfl) (by exact (pa_cons (pe_op op_cat (pe_lst (pa_cons (pe_gint rfl T.i_DEPENDENCIES) pa_nil)) (pe_fcall G_told_row (hr.mono (by decide)) T.g_told_row pass0 (by exact (pa_cons (pv 4) pa_nil)))) pa_nil)))) pss_nil)
      (PSs.nox (pss_cons (ps_asg (pe_lc (own := [("one", 5)]) rfl sc_Session_revert.nd (pi_list (pv 3)) (blkOk_by (own := [("one", 5)]) (N := N_Session_revert) (sc := defScope s_Session_revert) (by decide +kernel)) (fun _ _ _ _ _ => (pg_name (i := 5) sc_Session_revert.nd rfl (Or.inl rfl))) (fun _ _ _ _ _ => (pts_one (pt_cmpR op_ne (pv 5) (pv 2) (nomark _)))) (fun _ _ _ _ _ => (pv 5))) (pg_sub (pe_fld (pv 0) rfl) (pv 1) set_list))
      (pss_one (ps_ret (pe_lst (pa_cons (pe_callB c_len (by rfl) T.n_len PySem.boot_len (pa_cons (pe_ix ix_list (pe_fld (pv 0) rfl) (pv 1) (fun _ _ => rfl)) pa_nil)) pa_nil)))))))))))
theorem ok_of_Session_revert (T : Txt K mg) {sp_Session_ask_branch : Sp} (G_Session_ask_branch : DOk P w K mg base (L2.CX P w) 4 (mad K "Session" "ask_branch") p_Session_ask_branch sp_Session_ask_branch) {sp_demand : Sp} (G_demand : DOk P w K mg base (L2.CX P w) 3 (gad K "demand") p_demand sp_demand) {sp_Change_dependencies : Sp} (G_Change_dependencies : DOk P w K mg base CX0 1 (mad K "Change" "dependencies") p_Change_dependencies sp_Change_dependencies) {sp_told_row : Sp} (G_told_row : DOk P w K mg base CX0 1 (gad K "told_row") p_told_row sp_told_row) {sp : Sp} (len : ∀ vs H Q E, sp vs H Q E → vs.length = 3)
    (h : ∀ vs H Q E, sp vs H Q E → t_Session_revert K P w E sp_Session_ask_branch sp_demand sp_Change_dependencies sp_told_row { nx := fun _ H' => Q .non H', rt := Q } (start N_Session_revert vs) H) : DOk P w K mg base (L2.CX P w) 5 (mad K "Session" "revert") p_Session_revert sp :=
  dok_of T.F_Session_revert sc_Session_revert len (fun _ _ _ _ _ _ us hl => match us, hl with | [_, _, _], _ => rfl) fun f cdv A outer s H vs Q E hr q => ⟨_, der_Session_revert T G_Session_ask_branch G_demand G_Change_dependencies G_told_row hr, h vs H Q E q⟩
abbrev s_Session_text_order : Stmt := inClass (topS 35) 15
abbrev N_Session_text_order : List Str := ["self", "branch", "order", "many"]
abbrev p_Session_text_order : List Str := ["self", "branch"]
theorem sc_Session_text_order : FnScope N_Session_text_order p_Session_text_order (defScope s_Session_text_order) := ⟨rfl, rfl, rfl, by decide +kernel, rfl, by decide +kernel, by decide +kernel⟩
def t_Session_text_order (K : PySem.W.Frag) (P : Program) (w : World) (E : XK) (sp_Session_ask_branch : Sp) (sp_Session_order : Sp) (sp_Order_conflicts : Sp) : TS :=
  (tSeq (tDrop (tMeth (gad K "Session") "ask_branch" sp_Session_ask_branch [] E (tVar 0) (tCons (tVar 1) tNil)))
    (tSeq (tAsg (tMeth (gad K "Session") "order" sp_Session_order [] E0 (tVar 0) (tCons (tVar 1) tNil)) (gName 2))
    (tSeq (tAsg (tCB (rLen K) (tCons (tMeth (gad K "Order") "conflicts" sp_Order_conflicts [] E0 (tVar 2) tNil) tNil)) (gName 3))
    (tSeq (tIfS (tTest (tOp rGtI (tVar 3) (tC (.int 0)))) (tRaiseRef (gad K "Refused") (fun cls d _ H => E cls d H) (tCons (tLst (tCons (tC (.int (-5))) (tCons (tVar 3) tNil))) tNil)) tNext)
    (tRet (tVar 2))))))
theorem der_Session_text_order (T : Txt K mg) {sp_Session_ask_branch : Sp} (G_Session_ask_branch : DOk P w K mg base (L2.CX P w) 4 (mad K "Session" "ask_branch") p_Session_ask_branch sp_Session_ask_branch) {sp_Session_order : Sp} (G_Session_order : DOk P w K mg base CX0 5 (mad K "Session" "order") p_Session_order sp_Session_order) {sp_Order_conflicts : Sp} (G_Order_conflicts : DOk P w K mg base CX0 2 (mad K "Order" "conflicts") p_Order_conflicts sp_Order_conflicts) {f : Addr} {cdv : Value} {A : Around} {outer : List Env} {s : Shared} {H : Hp} {E : XK} (hr : Room 5 (A.deeper (envOfC "Session.text_order" (defScope s_Session_text_order) s.heap.objs.size f cdv))) :
    PSs (cxOf (L2.CX P w) P w K mg base N_Session_text_order "Session.text_order" (defScope s_Session_text_order) f cdv A outer s H E) (defBody s_Session_text_order) (t_Session_text_order K P w E sp_Session_ask_branch sp_Session_order sp_Order_conflicts) :=
  (pss_cons (ps_expr (pe_mcall G_Session_ask_branch (hr.mono (by decide)) T.cl_Session T.m_Session_ask_branch (passes_call (takes_of rfl rfl rfl rfl) (fun _ _ _ _ h => h)) (pv 0) (by exact (pa_cons (pv 1) pa_nil))))
      (pss_cons (ps_set (i := 2) sc_Session_text_order.nd rfl (Or.inl rfl) (pe_mcall G_Session_order (hr.mono (by decide)) T.cl_Session T.m_Session_order pass0 (pv 0) (by exact (pa_cons (pv 1) pa_nil))))
      (pss_cons (ps_set (i := 3) sc_Session_text_order.nd rfl (Or.inl rfl) (pe_callB c_len (by rfl) T.n_len PySem.boot_len (pa_cons (pe_mcall0 G_Order_conflicts (hr.mono (by decide)) T.cl_Order T.m_Order_conflicts pass0 (pv 2)) pa_nil)))
      (pss_cons (ps_if (pt_cmpR op_gt (pv 3) pe_int (nomark _)) (pss_one (ps_raiseRef rfl T.refx hr (takes_of rfl rfl rfl rfl) (by exact (pa_cons (pe_lst (pa_cons (pe_gint rfl T.i_CONFLICTS) (pa_cons (pv 3) pa_nil))) pa_nil)))) pss_nil)
      (PSs.nox (pss_one (ps_ret (pv 2))))))))
theorem ok_of_Session_text_order (T : Txt K mg) {sp_Session_ask_branch : Sp} (G_Session_ask_branch : DOk P w K mg base (L2.CX P w) 4 (mad K "Session" "ask_branch") p_Session_ask_branch sp_Session_ask_branch) {sp_Session_order : Sp} (G_Session_order : DOk P w K mg base CX0 5 (mad K "Session" "order") p_Session_order sp_Session_order) {sp_Order_conflicts : Sp} (G_Order_conflicts : DOk P w K mg base CX0 2 (mad K "Order" "conflicts") p_Order_conflicts sp_Order_conflicts) {sp : Sp} (len : ∀ vs H Q E, sp vs H Q E → vs.length = 2)
    (h : ∀ vs H Q E, sp vs H Q E → t_Session_text_order K P w E sp_Session_ask_branch sp_Session_order sp_Order_conflicts { nx := fun _ H' => Q .non H', rt := Q } (start N_Session_text_order vs) H) : DOk P w K mg base (L2.CX P w) 6 (mad K "Session" "text_order") p_Session_text_order sp :=
  dok_of T.F_Session_text_order sc_Session_text_order len (fun _ _ _ _ _ _ us hl => match us, hl with | [_, _], _ => rfl) fun f cdv A outer s H vs Q E hr q => ⟨_, der_Session_text_order T G_Session_ask_branch G_Session_order G_Order_conflicts hr, h vs H Q E q⟩
abbrev s_Session_show : Stmt := inClass (topS 35) 16
abbrev N_Session_show : List Str := ["self", "branch", "order", "found", "position"]
abbrev p_Session_show : List Str := ["self", "branch"]
theorem sc_Session_show : FnScope N_Session_show p_Session_show (defScope s_Session_show) := ⟨rfl, rfl, rfl, by decide +kernel, rfl, by decide +kernel, by decide +kernel⟩
def t_Session_show (K : PySem.W.Frag) (P : Program) (w : World) (E : XK) (sp_Session_text_order : Sp) (sp_told_line : Sp) (sp_Session_line_at : Sp) : TS :=
  (tSeq (tAsg (tMeth (gad K "Session") "text_order" sp_Session_text_order [] E (tVar 0) (tCons (tVar 1) tNil)) (gName 2))
    (tSeq (tAsg (tLst (tCons (tCB (rLen K) (tCons (tFld K (tVar 2) "lines") tNil)) tNil)) (gName 3))
    (tSeq (tFor (iList K (tFld K (tVar 2) "lines")) (gName 4) (tDrop (tBM K "list" rExtend (tVar 3) (tCons (tCall sp_told_line [] E0 (tCons (tMeth (gad K "Session") "line_at" sp_Session_line_at [] E0 (tVar 0) (tCons (tVar 4) tNil)) tNil)) tNil))))
    (tRet (tVar 3)))))
theorem der_Session_show (T : Txt K mg) {sp_Session_text_order : Sp} (G_Session_text_order : DOk P w K mg base (L2.CX P w) 6 (mad K "Session" "text_order") p_Session_text_order sp_Session_text_order) {sp_told_line : Sp} (G_told_line : DOk P w K mg base CX0 1 (gad K "told_line") p_told_line sp_told_line) {sp_Session_line_at : Sp} (G_Session_line_at : DOk P w K mg base CX0 1 (mad K "Session" "line_at") p_Session_line_at sp_Session_line_at) {f : Addr} {cdv : Value} {A : Around} {outer : List Env} {s : Shared} {H : Hp} {E : XK} (hr : Room 6 (A.deeper (envOfC "Session.show" (defScope s_Session_show) s.heap.objs.size f cdv))) :
    PSs (cxOf (L2.CX P w) P w K mg base N_Session_show "Session.show" (defScope s_Session_show) f cdv A outer s H E) (defBody s_Session_show) (t_Session_show K P w E sp_Session_text_order sp_told_line sp_Session_line_at) :=
  (pss_cons (ps_set (i := 2) sc_Session_show.nd rfl (Or.inl rfl) (pe_mcall G_Session_text_order (hr.mono (by decide)) T.cl_Session T.m_Session_text_order (passes_call (takes_of rfl rfl rfl rfl) (fun _ _ _ _ h => h)) (pv 0) (by exact (pa_cons (pv 1) pa_nil))))
      (PSs.nox (pss_cons (ps_set (i := 3) sc_Session_show.nd rfl (Or.inl rfl) (pe_lst (pa_cons (pe_callB c_len (by rfl) T.n_len PySem.boot_len (pa_cons (pe_fld (pv 2) rfl) pa_nil)) pa_nil)))
      (pss_cons (ps_for PassesOwn.never rfl (pi_list (pe_fld (pv 2) rfl)) (pg_name (i := 4) sc_Session_show.nd rfl (Or.inl rfl)) (pss_one (ps_expr (pe_bm PySem.F.plainAttrs_list PySem.F.slot_list_extend PySem.F.type_list_extend mt_extend (pv 3) (pa_cons (pe_fcall G_told_line (hr.mono (by decide)) T.g_told_line pass0 (by exact (pa_cons (pe_mcall G_Session_line_at (hr.mono (by decide)) T.cl_Session T.m_Session_line_at pass0 (pv 0) (by exact (pa_cons (pv 4) pa_nil))) pa_nil))) pa_nil)))))
      (pss_one (ps_ret (pv 3)))))))
theorem ok_of_Session_show (T : Txt K mg) {sp_Session_text_order : Sp} (G_Session_text_order : DOk P w K mg base (L2.CX P w) 6 (mad K "Session" "text_order") p_Session_text_order sp_Session_text_order) {sp_told_line : Sp} (G_told_line : DOk P w K mg base CX0 1 (gad K "told_line") p_told_line sp_told_line) {sp_Session_line_at : Sp} (G_Session_line_at : DOk P w K mg base CX0 1 (mad K "Session" "line_at") p_Session_line_at sp_Session_line_at) {sp : Sp} (len : ∀ vs H Q E, sp vs H Q E → vs.length = 2)
    (h : ∀ vs H Q E, sp vs H Q E → t_Session_show K P w E sp_Session_text_order sp_told_line sp_Session_line_at { nx := fun _ H' => Q .non H', rt := Q } (start N_Session_show vs) H) : DOk P w K mg base (L2.CX P w) 7 (mad K "Session" "show") p_Session_show sp :=
  dok_of T.F_Session_show sc_Session_show len (fun _ _ _ _ _ _ us hl => match us, hl with | [_, _], _ => rfl) fun f cdv A outer s H vs Q E hr q => ⟨_, der_Session_show T G_Session_text_order G_told_line G_Session_line_at hr, h vs H Q E q⟩
abbrev s_Session_shown_lines : Stmt := inClass (topS 35) 17
abbrev N_Session_shown_lines : List Str := ["self", "branch", "order", "found", "position", "conflicts", "one", "other"]
abbrev p_Session_shown_lines : List Str := ["self", "branch"]
theorem sc_Session_shown_lines : FnScope N_Session_shown_lines p_Session_shown_lines (defScope s_Session_shown_lines) := ⟨rfl, rfl, rfl, by decide +kernel, rfl, by decide +kernel, by decide +kernel⟩
def t_Session_shown_lines (K : PySem.W.Frag) (P : Program) (w : World) (E : XK) (sp_Session_ask_branch : Sp) (sp_Session_order : Sp) (sp_Order_conflicts : Sp) : TS :=
  (tSeq (tDrop (tMeth (gad K "Session") "ask_branch" sp_Session_ask_branch [] E (tVar 0) (tCons (tVar 1) tNil)))
    (tSeq (tAsg (tMeth (gad K "Session") "order" sp_Session_order [] E0 (tVar 0) (tCons (tVar 1) tNil)) (gName 2))
    (tSeq (tAsg (tLst (tCons (tCB (rLen K) (tCons (tFld K (tVar 2) "lines") tNil)) tNil)) (gName 3))
    (tSeq (tFor (iList K (tFld K (tVar 2) "lines")) (gName 4) (tDrop (tBM K "list" (rExtT K) (tVar 3) (tCons (tVar 4) tNil))))
    (tSeq (tAsg (tMeth (gad K "Order") "conflicts" sp_Order_conflicts [] E0 (tVar 2) tNil) (gName 5))
    (tSeq (tDrop (tBM K "list" rAppend (tVar 3) (tCons (tCB (rLen K) (tCons (tVar 5) tNil)) tNil)))
    (tSeq (tFor (iList K (tVar 5)) (gTup K 2 (gCons (gName 6) (gCons (gName 7) gNil))) (tDrop (tBM K "list" (rExtT K) (tVar 3) (tCons (tOp (rCatT K) (tVar 6) (tVar 7)) tNil))))
    (tRet (tVar 3)))))))))
theorem der_Session_shown_lines (T : Txt K mg) {sp_Session_ask_branch : Sp} (G_Session_ask_branch : DOk P w K mg base (L2.CX P w) 4 (mad K "Session" "ask_branch") p_Session_ask_branch sp_Session_ask_branch) {sp_Session_order : Sp} (G_Session_order : DOk P w K mg base CX0 5 (mad K "Session" "order") p_Session_order sp_Session_order) {sp_Order_conflicts : Sp} (G_Order_conflicts : DOk P w K mg base CX0 2 (mad K "Order" "conflicts") p_Order_conflicts sp_Order_conflicts) {f : Addr} {cdv : Value} {A : Around} {outer : List Env} {s : Shared} {H : Hp} {E : XK} (hr : Room 5 (A.deeper (envOfC "Session.shown_lines" (defScope s_Session_shown_lines) s.heap.objs.size f cdv))) :
    PSs (cxOf (L2.CX P w) P w K mg base N_Session_shown_lines "Session.shown_lines" (defScope s_Session_shown_lines) f cdv A outer s H E) (defBody s_Session_shown_lines) (t_Session_shown_lines K P w E sp_Session_ask_branch sp_Session_order sp_Order_conflicts) :=
  (pss_cons (ps_expr (pe_mcall G_Session_ask_branch (hr.mono (by decide)) T.cl_Session T.m_Session_ask_branch (passes_call (takes_of rfl rfl rfl rfl) (fun _ _ _ _ h => h)) (pv 0) (by exact (pa_cons (pv 1) pa_nil))))
      (PSs.nox (pss_cons (ps_set (i := 2) sc_Session_shown_lines.nd rfl (Or.inl rfl) (pe_mcall G_Session_order (hr.mono (by decide)) T.cl_Session T.m_Session_order pass0 (pv 0) (by exact (pa_cons (pv 1) pa_nil))))
      (pss_cons (ps_set (i := 3) sc_Session_shown_lines.nd rfl (Or.inl rfl) (pe_lst (pa_cons (pe_callB c_len (by rfl) T.n_len PySem.boot_len (pa_cons (pe_fld (pv 2) rfl) pa_nil)) pa_nil)))
      (pss_cons (ps_for PassesOwn.never rfl (pi_list (pe_fld (pv 2) rfl)) (pg_name (i := 4) sc_Session_shown_lines.nd rfl (Or.inl rfl)) (pss_one (ps_expr (pe_bm PySem.F.plainAttrs_list PySem.F.slot_list_extend PySem.F.type_list_extend mt_extT (pv 3) (pa_cons (pv 4) pa_nil)))))
      (pss_cons (ps_set (i := 5) sc_Session_shown_lines.nd rfl (Or.inl rfl) (pe_mcall0 G_Order_conflicts (hr.mono (by decide)) T.cl_Order T.m_Order_conflicts pass0 (pv 2)))
      (pss_cons (ps_expr (pe_bm PySem.F.plainAttrs_list PySem.F.slot_list_append PySem.F.type_list_append mt_append (pv 3) (pa_cons (pe_callB c_len (by rfl) T.n_len PySem.boot_len (pa_cons (pv 5) pa_nil)) pa_nil)))
      (pss_cons (ps_for PassesOwn.never rfl (pi_list (pv 5)) (pg_tup rfl (pgs_cons (pg_name (i := 6) sc_Session_shown_lines.nd rfl (Or.inl rfl)) (pgs_cons (pg_name (i := 7) sc_Session_shown_lines.nd rfl (Or.inl rfl)) pgs_nil))) (pss_one (ps_expr (pe_bm PySem.F.plainAttrs_list PySem.F.slot_list_extend PySem.F.type_list_extend mt_extT (pv 3) (pa_cons (pe_op op_catT (pv 6) (pv 7)) pa_nil)))))
      (pss_one (ps_ret (pv 3)))))))))))
theorem ok_of_Session_shown_lines (T : Txt K mg) {sp_Session_ask_branch : Sp} (G_Session_ask_branch : DOk P w K mg base (L2.CX P w) 4 (mad K "Session" "ask_branch") p_Session_ask_branch sp_Session_ask_branch) {sp_Session_order : Sp} (G_Session_order : DOk P w K mg base CX0 5 (mad K "Session" "order") p_Session_order sp_Session_order) {sp_Order_conflicts : Sp} (G_Order_conflicts : DOk P w K mg base CX0 2 (mad K "Order" "conflicts") p_Order_conflicts sp_Order_conflicts) {sp : Sp} (len : ∀ vs H Q E, sp vs H Q E → vs.length = 2)
    (h : ∀ vs H Q E, sp vs H Q E → t_Session_shown_lines K P w E sp_Session_ask_branch sp_Session_order sp_Order_conflicts { nx := fun _ H' => Q .non H', rt := Q } (start N_Session_shown_lines vs) H) : DOk P w K mg base (L2.CX P w) 6 (mad K "Session" "shown_lines") p_Session_shown_lines sp :=
  dok_of T.F_Session_shown_lines sc_Session_shown_lines len (fun _ _ _ _ _ _ us hl => match us, hl with | [_, _], _ => rfl) fun f cdv A outer s H vs Q E hr q => ⟨_, der_Session_shown_lines T G_Session_ask_branch G_Session_order G_Order_conflicts hr, h vs H Q E q⟩
abbrev s_Session_change : Stmt := inClass (topS 35) 18
abbrev N_Session_change : List Str := ["self", "number", "change", "found", "position", "before", "lines", "after", "line"]
abbrev p_Session_change : List Str := ["self", "number"]
theorem sc_Session_change : FnScope N_Session_change p_Session_change (defScope s_Session_change) := ⟨rfl, rfl, rfl, by decide +kernel, rfl, by decide +kernel, by decide +kernel⟩
def t_Session_change (K : PySem.W.Frag) (P : Program) (w : World) (E : XK) (sp_Session_ask_change : Sp) (sp_told_line : Sp) (sp_told_row : Sp) (sp_Change_dependencies : Sp) : TS :=
  (tSeq (tDrop (tMeth (gad K "Session") "ask_change" sp_Session_ask_change [] E (tVar 0) (tCons (tVar 1) tNil)))
    (tSeq (tAsg (tOp (rIxL K) (tFld K (tVar 0) "made") (tVar 1)) (gName 2))
    (tSeq (tAsg (tLst (tCons (tCB (rLen K) (tCons (tFld K (tVar 2) "hunks") tNil)) tNil)) (gName 3))
    (tSeq (tFor (iList K (tFld K (tVar 2) "hunks")) (gTup K 3 (gCons (gName 5) (gCons (gName 6) (gCons (gName 7) gNil)))) (tSeq (tDrop (tBM K "list" (rExtT K) (tVar 3) (tCons (tOp (rCatT K) (tVar 5) (tVar 7)) tNil)))
    (tSeq (tDrop (tBM K "list" rAppend (tVar 3) (tCons (tCB (rLen K) (tCons (tVar 6) tNil)) tNil)))
    (tFor (iList K (tVar 6)) (gName 8) (tDrop (tBM K "list" rExtend (tVar 3) (tCons (tCall sp_told_line [] E0 (tCons (tVar 8) tNil)) tNil)))))))
    (tSeq (tDrop (tBM K "list" rAppend (tVar 3) (tCons (tCB (rLen K) (tCons (tFld K (tVar 2) "deleted") tNil)) tNil)))
    (tSeq (tFor (iList K (tFld K (tVar 2) "deleted")) (gName 4) (tDrop (tBM K "list" (rExtT K) (tVar 3) (tCons (tVar 4) tNil))))
    (tRet (tOp rCat (tVar 3) (tCall sp_told_row [] E0 (tCons (tMeth (gad K "Change") "dependencies" sp_Change_dependencies [] E0 (tVar 2) tNil) tNil))))))))))
theorem der_Session_change (T : Txt K mg) {sp_Session_ask_change : Sp} (G_Session_ask_change : DOk P w K mg base (L2.CX P w) 4 (mad K "Session" "ask_change") p_Session_ask_change sp_Session_ask_change) {sp_told_line : Sp} (G_told_line : DOk P w K mg base CX0 1 (gad K "told_line") p_told_line sp_told_line) {sp_told_row : Sp} (G_told_row : DOk P w K mg base CX0 1 (gad K "told_row") p_told_row sp_told_row) {sp_Change_dependencies : Sp} (G_Change_dependencies : DOk P w K mg base CX0 1 (mad K "Change" "dependencies") p_Change_dependencies sp_Change_dependencies) {f : Addr} {cdv : Value} {A : Around} {outer : List Env} {s : Shared} {H : Hp} {E : XK} (hr : Room 4 (A.deeper (envOfC "Session.change" (defScope s_Session_change) s.heap.objs.size f cdv))) :
    PSs (cxOf (L2.CX P w) P w K mg base N_Session_change "Session.change" (defScope s_Session_change) f cdv A outer s H E) (defBody s_Session_change) (t_Session_change K P w E sp_Session_ask_change sp_told_line sp_told_row sp_Change_dependencies) :=
  (pss_cons (ps_expr (pe_mcall G_Session_ask_change (hr.mono (by decide)) T.cl_Session T.m_Session_ask_change (passes_call (takes_of rfl rfl rfl rfl) (fun _ _ _ _ h => h)) (pv 0) (by exact (pa_cons (pv 1) pa_nil))))
      (PSs.nox (pss_cons (ps_set (i := 2) sc_Session_change.nd rfl (Or.inl rfl) (pe_ix ix_list (pe_fld (pv 0) rfl) (pv 1) (fun _ _ => rfl)))
      (pss_cons (ps_set (i := 3) sc_Session_change.nd rfl (Or.inl rfl) (pe_lst (pa_cons (pe_callB c_len (by rfl) T.n_len PySem.boot_len (pa_cons (pe_fld (pv 2) rfl) pa_nil)) pa_nil)))
      (pss_cons (ps_for PassesOwn.never rfl (pi_list (pe_fld (pv 2) rfl)) (pg_tup rfl (pgs_cons (pg_name (i := 5) sc_Session_change.nd rfl (Or.inl rfl)) (pgs_cons (pg_name (i := 6) sc_Session_change.nd rfl (Or.inl rfl)) (pgs_cons (pg_name (i := 7) sc_Session_change.nd rfl (Or.inl rfl)) pgs_nil)))) (pss_cons (ps_expr (pe_bm PySem.F.plainAttrs_list PySem.F.slot_list_extend PySem.F.type_list_extend mt_extT (pv 3) (pa_cons (pe_op op_catT (pv 5) (pv 7)) pa_nil)))
      (pss_cons (ps_expr (pe_bm PySem.F.plainAttrs_list PySem.F.slot_list_append PySem.F.type_list_append mt_append (pv 3) (pa_cons (pe_callB c_len (by rfl) T.n_len PySem.boot_len (pa_cons (pv 6) pa_nil)) pa_nil)))
      (pss_one (ps_for PassesOwn.never rfl (pi_list (pv 6)) (pg_name (i := 8) sc_Session_change.nd rfl (Or.inl rfl)) (pss_one (ps_expr (pe_bm PySem.F.plainAttrs_list PySem.F.slot_list_extend PySem.F.type_list_extend mt_extend (pv 3) (pa_cons (pe_fcall G_told_line (hr.mono (by decide)) T.g_told_line pass0 (by exact (pa_cons (pv 8) pa_nil))) pa_nil)))))))))
      (pss_cons (ps_expr (pe_bm PySem.F.plainAttrs_list PySem.F.slot_list_append PySem.F.type_list_append mt_append (pv 3) (pa_cons (pe_callB c_len (by rfl) T.n_len PySem.boot_len (pa_cons (pe_fld (pv 2) rfl) pa_nil)) pa_nil)))
      (pss_cons (ps_for PassesOwn.never rfl (pi_list (pe_fld (pv 2) rfl)) (pg_name (i := 4) sc_Session_change.nd rfl (Or.inl rfl)) (pss_one (ps_expr (pe_bm PySem.F.plainAttrs_list PySem.F.slot_list_extend PySem.F.type_list_extend mt_extT (pv 3) (pa_cons (pv 4) pa_nil)))))
      (pss_one (ps_ret (pe_op op_cat (pv 3) (pe_fcall G_told_row (hr.mono (by decide)) T.g_told_row pass0 (by exact (pa_cons (pe_mcall0 G_Change_dependencies (hr.mono (by decide)) T.cl_Change T.m_Change_dependencies pass0 (pv 2)) pa_nil)))))))))))))
theorem ok_of_Session_change (T : Txt K mg) {sp_Session_ask_change : Sp} (G_Session_ask_change : DOk P w K mg base (L2.CX P w) 4 (mad K "Session" "ask_change") p_Session_ask_change sp_Session_ask_change) {sp_told_line : Sp} (G_told_line : DOk P w K mg base CX0 1 (gad K "told_line") p_told_line sp_told_line) {sp_told_row : Sp} (G_told_row : DOk P w K mg base CX0 1 (gad K "told_row") p_told_row sp_told_row) {sp_Change_dependencies : Sp} (G_Change_dependencies : DOk P w K mg base CX0 1 (mad K "Change" "dependencies") p_Change_dependencies sp_Change_dependencies) {sp : Sp} (len : ∀ vs H Q E, sp vs H Q E → vs.length = 2)
    (h : ∀ vs H Q E, sp vs H Q E → t_Session_change K P w E sp_Session_ask_change sp_told_line sp_told_row sp_Change_dependencies { nx := fun _ H' => Q .non H', rt := Q } (start N_Session_change vs) H) : DOk P w K mg base (L2.CX P w) 5 (mad K "Session" "change") p_Session_change sp :=
  dok_of T.F_Session_change sc_Session_change len (fun _ _ _ _ _ _ us hl => match us, hl with | [_, _], _ => rfl) fun f cdv A outer s H vs Q E hr q => ⟨_, der_Session_change T G_Session_ask_change G_told_line G_told_row G_Change_dependencies hr, h vs H Q E q⟩
abbrev s_Session_requirements : Stmt := inClass (topS 35) 19
abbrev N_Session_requirements : List Str := ["self", "number"]
abbrev p_Session_requirements : List Str := ["self", "number"]
theorem sc_Session_requirements : FnScope N_Session_requirements p_Session_requirements (defScope s_Session_requirements) := ⟨rfl, rfl, rfl, by decide +kernel, rfl, by decide +kernel, by decide +kernel⟩
def t_Session_requirements (K : PySem.W.Frag) (P : Program) (w : World) (E : XK) (sp_Session_ask_change : Sp) (sp_told_row : Sp) (sp_Session_required : Sp) : TS :=
  (tSeq (tDrop (tMeth (gad K "Session") "ask_change" sp_Session_ask_change [] E (tVar 0) (tCons (tVar 1) tNil)))
    (tRet (tCall sp_told_row [] E0 (tCons (tMeth (gad K "Session") "required" sp_Session_required [] E0 (tVar 0) (tCons (tVar 1) tNil)) tNil))))
theorem der_Session_requirements (T : Txt K mg) {sp_Session_ask_change : Sp} (G_Session_ask_change : DOk P w K mg base (L2.CX P w) 4 (mad K "Session" "ask_change") p_Session_ask_change sp_Session_ask_change) {sp_told_row : Sp} (G_told_row : DOk P w K mg base CX0 1 (gad K "told_row") p_told_row sp_told_row) {sp_Session_required : Sp} (G_Session_required : DOk P w K mg base CX0 2 (mad K "Session" "required") p_Session_required sp_Session_required) {f : Addr} {cdv : Value} {A : Around} {outer : List Env} {s : Shared} {H : Hp} {E : XK} (hr : Room 4 (A.deeper (envOfC "Session.requirements" (defScope s_Session_requirements) s.heap.objs.size f cdv))) :
    PSs (cxOf (L2.CX P w) P w K mg base N_Session_requirements "Session.requirements" (defScope s_Session_requirements) f cdv A outer s H E) (defBody s_Session_requirements) (t_Session_requirements K P w E sp_Session_ask_change sp_told_row sp_Session_required) :=
  (pss_cons (ps_expr (pe_mcall G_Session_ask_change (hr.mono (by decide)) T.cl_Session T.m_Session_ask_change (passes_call (takes_of rfl rfl rfl rfl) (fun _ _ _ _ h => h)) (pv 0) (by exact (pa_cons (pv 1) pa_nil))))
      (PSs.nox (pss_one (ps_ret (pe_fcall G_told_row (hr.mono (by decide)) T.g_told_row pass0 (by exact (pa_cons (pe_mcall G_Session_required (hr.mono (by decide)) T.cl_Session T.m_Session_required pass0 (pv 0) (by exact (pa_cons (pv 1) pa_nil))) pa_nil)))))))
theorem ok_of_Session_requirements (T : Txt K mg) {sp_Session_ask_change : Sp} (G_Session_ask_change : DOk P w K mg base (L2.CX P w) 4 (mad K "Session" "ask_change") p_Session_ask_change sp_Session_ask_change) {sp_told_row : Sp} (G_told_row : DOk P w K mg base CX0 1 (gad K "told_row") p_told_row sp_told_row) {sp_Session_required : Sp} (G_Session_required : DOk P w K mg base CX0 2 (mad K "Session" "required") p_Session_required sp_Session_required) {sp : Sp} (len : ∀ vs H Q E, sp vs H Q E → vs.length = 2)
    (h : ∀ vs H Q E, sp vs H Q E → t_Session_requirements K P w E sp_Session_ask_change sp_told_row sp_Session_required { nx := fun _ H' => Q .non H', rt := Q } (start N_Session_requirements vs) H) : DOk P w K mg base (L2.CX P w) 5 (mad K "Session" "requirements") p_Session_requirements sp :=
  dok_of T.F_Session_requirements sc_Session_requirements len (fun _ _ _ _ _ _ us hl => match us, hl with | [_, _], _ => rfl) fun f cdv A outer s H vs Q E hr q => ⟨_, der_Session_requirements T G_Session_ask_change G_told_row G_Session_required hr, h vs H Q E q⟩
abbrev s_Session_apply_all : Stmt := inClass (topS 35) 20
abbrev N_Session_apply_all : List Str := ["self", "branch", "number", "own", "found", "one"]
abbrev p_Session_apply_all : List Str := ["self", "branch", "number"]
theorem sc_Session_apply_all : FnScope N_Session_apply_all p_Session_apply_all (defScope s_Session_apply_all) := ⟨rfl, rfl, rfl, by decide +kernel, rfl, by decide +kernel, by decide +kernel⟩
def t_Session_apply_all (K : PySem.W.Frag) (P : Program) (w : World) (E : XK) (sp_Session_ask_branch : Sp) (sp_Session_ask_change : Sp) (sp_demand : Sp) (sp_Session_required : Sp) (sp_Session_add : Sp) (sp_told_row : Sp) : TS :=
  (tSeq (tDrop (tMeth (gad K "Session") "ask_branch" sp_Session_ask_branch [] E (tVar 0) (tCons (tVar 1) tNil)))
    (tSeq (tDrop (tMeth (gad K "Session") "ask_change" sp_Session_ask_change [] E (tVar 0) (tCons (tVar 2) tNil)))
    (tSeq (tAsg (tOp (rIxL K) (tFld K (tVar 0) "branches") (tVar 1)) (gName 3))
    (tSeq (tDrop (tCall sp_demand [] E (tCons (tOp (rIn K true) (tVar 2) (tVar 3)) (tCons (tC (.int (-6))) tNil))))
    (tSeq (tAsg (tLc (iList K (tMeth (gad K "Session") "required" sp_Session_required [] E0 (tVar 0) (tCons (tVar 2) tNil))) (gName 5) (tTest (tOp (rIn K true) (tVar 5) (tVar 3))) (tVar 5) [5]) (gName 4))
    (tSeq (tDrop (tMeth (gad K "Session") "add" sp_Session_add [] E0 (tVar 0) (tCons (tVar 1) (tCons (tVar 4) tNil))))
    (tRet (tCall sp_told_row [] E0 (tCons (tVar 4) tNil)))))))))
theorem der_Session_apply_all (T : Txt K mg) {sp_Session_ask_branch : Sp} (G_Session_ask_branch : DOk P w K mg base (L2.CX P w) 4 (mad K "Session" "ask_branch") p_Session_ask_branch sp_Session_ask_branch) {sp_Session_ask_change : Sp} (G_Session_ask_change : DOk P w K mg base (L2.CX P w) 4 (mad K "Session" "ask_change") p_Session_ask_change sp_Session_ask_change) {sp_demand : Sp} (G_demand : DOk P w K mg base (L2.CX P w) 3 (gad K "demand") p_demand sp_demand) {sp_Session_required : Sp} (G_Session_required : DOk P w K mg base CX0 2 (mad K "Session" "required") p_Session_required sp_Session_required) {sp_Session_add : Sp} (G_Session_add : DOk P w K mg base CX0 1 (mad K "Session" "add") p_Session_add sp_Session_add) {sp_told_row : Sp} (G_told_row : DOk P w K mg base CX0 1 (gad K "told_row") p_told_row sp_told_row) {f : Addr} {cdv : Value} {A : Around} {outer : List Env} {s : Shared} {H : Hp} {E : XK} (hr : Room 4 (A.deeper (envOfC "Session.apply_all" (defScope s_Session_apply_all) s.heap.objs.size f cdv))) :
    PSs (cxOf (L2.CX P w) P w K mg base N_Session_apply_all "Session.apply_all" (defScope s_Session_apply_all) f cdv A outer s H E) (defBody s_Session_apply_all) (t_Session_apply_all K P w E sp_Session_ask_branch sp_Session_ask_change sp_demand sp_Session_required sp_Session_add sp_told_row) :=
  (pss_cons (ps_expr (pe_mcall G_Session_ask_branch (hr.mono (by decide)) T.cl_Session T.m_Session_ask_branch (passes_call (takes_of rfl rfl rfl rfl) (fun _ _ _ _ h => h)) (pv 0) (by exact (pa_cons (pv 1) pa_nil))))
      (pss_cons (ps_expr (pe_mcall G_Session_ask_change (hr.mono (by decide)) T.cl_Session T.m_Session_ask_change (passes_call (takes_of rfl rfl rfl rfl) (fun _ _ _ _ h => h)) (pv 0) (by exact (pa_cons (pv 2) pa_nil))))
      (pss_cons (ps_set (i := 3) sc_Session_apply_all.nd rfl (Or.inr rfl) (pe_ix ix_list (pe_fld (pv 0) rfl) (pv 1) (fun _ _ => rfl)))
      (pss_cons (ps_expr (pe_fcall G_demand (hr.mono (by decide)) T.g_demand (passes_call (takes_of rfl rfl rfl rfl) (fun _ _ _ _ h => h)) (by exact (pa_cons (pe_cmpR op_notIn_seq (pv 2) (pv 3) (by rfl)) (pa_cons (pe_gint rfl T.i_NOTHING) pa_nil)))))
      (PSs.nox (pss_cons (ps_setLc (i := 4) (own := [("one", 5)]) rfl sc_Session_apply_all.nd rfl rfl (sw_true rfl rfl rfl (by decide +kernel)) (pi_list (pe_mcall G_Session_required (hr.mono (by decide)) T.cl_Session T.m_Session_required pass0 (pv 0) (by exact (pa_cons (pv 2) pa_nil)))) (blkOk_by (own := [("one", 5)]) (N := N_Session_apply_all) (sc := defScope s_Session_apply_all) (by decide +kernel)) (fun _ _ _ _ _ => (pg_name (i := 5) sc_Session_apply_all.nd rfl (Or.inl rfl))) (fun _ _ _ _ _ => (pts_one (pt_cmpR op_notIn_seq (pv 5) (pv 3) (by rfl)))) (fun _ _ _ _ _ => (pv 5)))
      (pss_cons (ps_expr (pe_mcall G_Session_add (hr.mono (by decide)) T.cl_Session T.m_Session_add pass0 (pv 0) (by exact (pa_cons (pv 1) (pa_cons (pv 4) pa_nil)))))
      (pss_one (ps_ret (pe_fcall G_told_row (hr.mono (by decide)) T.g_told_row pass0 (by exact (pa_cons (pv 4) pa_nil))))))))))))
theorem ok_of_Session_apply_all (T : Txt K mg) {sp_Session_ask_branch : Sp} (G_Session_ask_branch : DOk P w K mg base (L2.CX P w) 4 (mad K "Session" "ask_branch") p_Session_ask_branch sp_Session_ask_branch) {sp_Session_ask_change : Sp} (G_Session_ask_change : DOk P w K mg base (L2.CX P w) 4 (mad K "Session" "ask_change") p_Session_ask_change sp_Session_ask_change) {sp_demand : Sp} (G_demand : DOk P w K mg base (L2.CX P w) 3 (gad K "demand") p_demand sp_demand) {sp_Session_required : Sp} (G_Session_required : DOk P w K mg base CX0 2 (mad K "Session" "required") p_Session_required sp_Session_required) {sp_Session_add : Sp} (G_Session_add : DOk P w K mg base CX0 1 (mad K "Session" "add") p_Session_add sp_Session_add) {sp_told_row : Sp} (G_told_row : DOk P w K mg base CX0 1 (gad K "told_row") p_told_row sp_told_row) {sp : Sp} (len : ∀ vs H Q E, sp vs H Q E → vs.length = 3)
    (h : ∀ vs H Q E, sp vs H Q E → t_Session_apply_all K P w E sp_Session_ask_branch sp_Session_ask_change sp_demand sp_Session_required sp_Session_add sp_told_row { nx := fun _ H' => Q .non H', rt := Q } (start N_Session_apply_all vs) H) : DOk P w K mg base (L2.CX P w) 5 (mad K "Session" "apply_all") p_Session_apply_all sp :=
  dok_of T.F_Session_apply_all sc_Session_apply_all len (fun _ _ _ _ _ _ us hl => match us, hl with | [_, _, _], _ => rfl) fun f cdv A outer s H vs Q E hr q => ⟨_, der_Session_apply_all T G_Session_ask_branch G_Session_ask_change G_demand G_Session_required G_Session_add G_told_row hr, h vs H Q E q⟩
abbrev s_Session_revert_all : Stmt := inClass (topS 35) 21
abbrev N_Session_revert_all : List Str := ["self", "branch", "number", "own", "found", "one"]
abbrev p_Session_revert_all : List Str := ["self", "branch", "number"]
theorem sc_Session_revert_all : FnScope N_Session_revert_all p_Session_revert_all (defScope s_Session_revert_all) := ⟨rfl, rfl, rfl, by decide +kernel, rfl, by decide +kernel, by decide +kernel⟩
def t_Session_revert_all (K : PySem.W.Frag) (P : Program) (w : World) (E : XK) (sp_Session_ask_branch : Sp) (sp_demand : Sp) (sp_Session_required : Sp) (sp_told_row : Sp) : TS :=
  (tSeq (tDrop (tMeth (gad K "Session") "ask_branch" sp_Session_ask_branch [] E (tVar 0) (tCons (tVar 1) tNil)))
    (tSeq (tAsg (tOp (rIxL K) (tFld K (tVar 0) "branches") (tVar 1)) (gName 3))
    (tSeq (tDrop (tCall sp_demand [] E (tCons (tOp (rIn K false) (tVar 2) (tVar 3)) (tCons (tC (.int (-6))) tNil))))
    (tSeq (tAsg (tLc (iList K (tVar 3)) (gName 5) (tTest (tOp (rIn K false) (tVar 2) (tMeth (gad K "Session") "required" sp_Session_required [] E0 (tVar 0) (tCons (tVar 5) tNil)))) (tVar 5) [5]) (gName 4))
    (tSeq (tAsg (tLc (iList K (tVar 3)) (gName 5) (tTest (tOp (rIn K true) (tVar 5) (tVar 4))) (tVar 5) [5]) (gSub (tFld K (tVar 0) "branches") (tVar 1) rSetL))
    (tRet (tCall sp_told_row [] E0 (tCons (tVar 4) tNil))))))))
theorem der_Session_revert_all (T : Txt K mg) {sp_Session_ask_branch : Sp} (G_Session_ask_branch : DOk P w K mg base (L2.CX P w) 4 (mad K "Session" "ask_branch") p_Session_ask_branch sp_Session_ask_branch) {sp_demand : Sp} (G_demand : DOk P w K mg base (L2.CX P w) 3 (gad K "demand") p_demand sp_demand) {sp_Session_required : Sp} (G_Session_required : DOk P w K mg base CX0 2 (mad K "Session" "required") p_Session_required sp_Session_required) {sp_told_row : Sp} (G_told_row : DOk P w K mg base CX0 1 (gad K "told_row") p_told_row sp_told_row) {f : Addr} {cdv : Value} {A : Around} {outer : List Env} {s : Shared} {H : Hp} {E : XK} (hr : Room 4 (A.deeper (envOfC "Session.revert_all" (defScope s_Session_revert_all) s.heap.objs.size f cdv))) :
    PSs (cxOf (L2.CX P w) P w K mg base N_Session_revert_all "Session.revert_all" (defScope s_Session_revert_all) f cdv A outer s H E) (defBody s_Session_revert_all) (t_Session_revert_all K P w E sp_Session_ask_branch sp_demand sp_Session_required sp_told_row) :=
  (pss_cons (ps_expr (pe_mcall G_Session_ask_branch (hr.mono (by decide)) T.cl_Session T.m_Session_ask_branch (passes_call (takes_of rfl rfl rfl rfl) (fun _ _ _ _ h => h)) (pv 0) (by exact (pa_cons (pv 1) pa_nil))))
      (pss_cons (ps_set (i := 3) sc_Session_revert_all.nd rfl (Or.inl rfl) (pe_ix ix_list (pe_fld (pv 0) rfl) (pv 1) (fun _ _ => rfl)))
      (pss_cons (ps_expr (pe_fcall G_demand (hr.mono (by decide)) T.g_demand (passes_call (takes_of rfl rfl rfl rfl) (fun _ _ _ _ h => h)) (by exact (pa_cons (pe_cmpR op_in_seq (pv 2) (pv 3) (by rfl)) (pa_cons (pe_gint rfl T.i_NOTHING) pa_nil)))))
      (PSs.nox (pss_cons (ps_set (i := 4) sc_Session_revert_all.nd rfl (Or.inr rfl) (pe_lc (own := [("one", 5)]) rfl sc_Session_revert_all.nd (pi_list (pv 3)) (blkOk_by (own := [("one", 5)]) (N := N_Session_revert_all) (sc := defScope s_Session_revert_all) (by decide +kernel)) (fun _ _ _ _ _ => (pg_name (i := 5) sc_Session_revert_all.nd rfl (Or.inl rfl))) (fun _ _ _ _ _ => (pts_one (pt_cmpR op_in_seq (pv 2) (pe_mcall G_Session_required (hr.mono (by decide)) T.cl_Session T.m_Session_required pass0 (pv 0) (by exact (pa_cons (pv 5) pa_nil))) (by rfl)))) (fun _ _ _ _ _ => (pv 5))))
      (pss_cons (ps_asg (pe_lc (own := [("one", 5)]) rfl sc_Session_revert_all.nd (pi_list (pv 3)) (blkOk_by (own := [("one", 5)]) (N := N_Session_revert_all) (sc := defScope s_Session_revert_all) (by decide +kernel)) (fun _ _ _ _ _ => (pg_name (i := 5) sc_Session_revert_all.nd rfl (Or.inl rfl))) (fun _ _ _ _ _ => (pts_one (pt_cmpR op_notIn_seq (pv 5) (pv 4) (by rfl)))) (fun _ _ _ _ _ => (pv 5))) (pg_sub (pe_fld (pv 0) rfl) (pv 1) set_list))
      (pss_one (ps_ret (pe_fcall G_told_row (hr.mono (by decide)) T.g_told_row pass0 (by exact (pa_cons (pv 4) pa_nil)))))))))))
theorem ok_of_Session_revert_all (T : Txt K mg) {sp_Session_ask_branch : Sp} (G_Session_ask_branch : DOk P w K mg base (L2.CX P w) 4 (mad K "Session" "ask_branch") p_Session_ask_branch sp_Session_ask_branch) {sp_demand : Sp} (G_demand : DOk P w K mg base (L2.CX P w) 3 (gad K "demand") p_demand sp_demand) {sp_Session_required : Sp} (G_Session_required : DOk P w K mg base CX0 2 (mad K "Session" "required") p_Session_required sp_Session_required) {sp_told_row : Sp} (G_told_row : DOk P w K mg base CX0 1 (gad K "told_row") p_told_row sp_told_row) {sp : Sp} (len : ∀ vs H Q E, sp vs H Q E → vs.length = 3)
    (h : ∀ vs H Q E, sp vs H Q E → t_Session_revert_all K P w E sp_Session_ask_branch sp_demand sp_Session_required sp_told_row { nx := fun _ H' => Q .non H', rt := Q } (start N_Session_revert_all vs) H) : DOk P w K mg base (L2.CX P w) 5 (mad K "Session" "revert_all") p_Session_revert_all sp :=
  dok_of T.F_Session_revert_all sc_Session_revert_all len (fun _ _ _ _ _ _ us hl => match us, hl with | [_, _, _], _ => rfl) fun f cdv A outer s H vs Q E hr q => ⟨_, der_Session_revert_all T G_Session_ask_branch G_demand G_Session_required G_told_row hr, h vs H Q E q⟩
abbrev s_Session_explain : Stmt := inClass (topS 35) 22
abbrev N_Session_explain : List Str := ["self", "branch", "number", "line", "own", "found", "one"]
abbrev p_Session_explain : List Str := ["self", "branch", "number", "line"]
theorem sc_Session_explain : FnScope N_Session_explain p_Session_explain (defScope s_Session_explain) := ⟨rfl, rfl, rfl, by decide +kernel, rfl, by decide +kernel, by decide +kernel⟩
def t_Session_explain (K : PySem.W.Frag) (P : Program) (w : World) (E : XK) (sp_Session_ask_branch : Sp) (sp_Session_ask_change : Sp) (sp_demand : Sp) (sp_told_row : Sp) : TS :=
  (tSeq (tDrop (tMeth (gad K "Session") "ask_branch" sp_Session_ask_branch [] E (tVar 0) (tCons (tVar 1) tNil)))
    (tSeq (tDrop (tMeth (gad K "Session") "ask_change" sp_Session_ask_change [] E (tVar 0) (tCons (tVar 2) tNil)))
    (tSeq (tDrop (tCall sp_demand [] E (tCons (tOp rLtI (tVar 3) (tCB (rLen K) (tCons (tFld K (tOp (rIxL K) (tFld K (tVar 0) "made") (tVar 2)) "lines") tNil))) (tCons (tC (.int (-3))) tNil))))
    (tSeq (tAsg (tOp (rIxL K) (tFld K (tVar 0) "branches") (tVar 1)) (gName 4))
    (tSeq (tIfS (tTest (tOp (rIn K true) (tVar 2) (tVar 4))) (tRet (tLst (tCons (tC (.int (2))) tNil))) tNext)
    (tSeq (tAsg (tLc (iList K (tVar 4)) (gName 6) (tTest (tOp (rInD K) (tTup (tCons (tVar 2) (tCons (tVar 3) tNil))) (tFld K (tOp (rIxL K) (tFld K (tVar 0) "made") (tVar 6)) "deleted"))) (tVar 6) [6]) (gName 5))
    (tRet (tIf (tTest (tOp (rEqD K) (tVar 5) (tLst tNil))) (tLst (tCons (tC (.int (1))) tNil)) (tOp rCat (tLst (tCons (tC (.int 0)) tNil)) (tCall sp_told_row [] E0 (tCons (tVar 5) tNil)))))))))))
theorem der_Session_explain (T : Txt K mg) {sp_Session_ask_branch : Sp} (G_Session_ask_branch : DOk P w K mg base (L2.CX P w) 4 (mad K "Session" "ask_branch") p_Session_ask_branch sp_Session_ask_branch) {sp_Session_ask_change : Sp} (G_Session_ask_change : DOk P w K mg base (L2.CX P w) 4 (mad K "Session" "ask_change") p_Session_ask_change sp_Session_ask_change) {sp_demand : Sp} (G_demand : DOk P w K mg base (L2.CX P w) 3 (gad K "demand") p_demand sp_demand) {sp_told_row : Sp} (G_told_row : DOk P w K mg base CX0 1 (gad K "told_row") p_told_row sp_told_row) {f : Addr} {cdv : Value} {A : Around} {outer : List Env} {s : Shared} {H : Hp} {E : XK} (hr : Room 4 (A.deeper (envOfC "Session.explain" (defScope s_Session_explain) s.heap.objs.size f cdv))) :
    PSs (cxOf (L2.CX P w) P w K mg base N_Session_explain "Session.explain" (defScope s_Session_explain) f cdv A outer s H E) (defBody s_Session_explain) (t_Session_explain K P w E sp_Session_ask_branch sp_Session_ask_change sp_demand sp_told_row) :=
  (pss_cons (ps_expr (pe_mcall G_Session_ask_branch (hr.mono (by decide)) T.cl_Session T.m_Session_ask_branch (passes_call (takes_of rfl rfl rfl rfl) (fun _ _ _ _ h => h)) (pv 0) (by exact (pa_cons (pv 1) pa_nil))))
      (pss_cons (ps_expr (pe_mcall G_Session_ask_change (hr.mono (by decide)) T.cl_Session T.m_Session_ask_change (passes_call (takes_of rfl rfl rfl rfl) (fun _ _ _ _ h => h)) (pv 0) (by exact (pa_cons (pv 2) pa_nil))))
      (pss_cons (ps_expr (pe_fcall G_demand (hr.mono (by decide)) T.g_demand (passes_call (takes_of rfl rfl rfl rfl) (fun _ _ _ _ h => h)) (by exact (pa_cons (pe_cmpR op_lt (pv 3) (pe_callB c_len (by rfl) T.n_len PySem.boot_len (pa_cons (pe_fld (pe_ix ix_list (pe_fld (pv 0) rfl) (pv 2) (fun _ _ => rfl)) rfl) pa_nil)) (nomark _)) (pa_cons (pe_gint rfl T.i_NOT_THERE) pa_nil)))))
      (PSs.nox (pss_cons (ps_set (i := 4) sc_Session_explain.nd rfl (Or.inl rfl) (pe_ix ix_list (pe_fld (pv 0) rfl) (pv 1) (fun _ _ => rfl)))
      (pss_cons (ps_if (pt_cmpR op_notIn_seq (pv 2) (pv 4) (by rfl)) (pss_one (ps_ret (pe_lst (pa_cons (pe_gint rfl T.i_AWAY) pa_nil)))) pss_nil)
      (pss_cons (ps_setLc (i := 5) (own := [("one", 6)]) rfl sc_Session_explain.nd rfl rfl (sw_true rfl rfl rfl (by decide +kernel)) (pi_list (pv 4)) (blkOk_by (own := [("one", 6)]) (N := N_Session_explain) (sc := defScope s_Session_explain) (by decide +kernel)) (fun _ _ _ _ _ => (pg_name (i := 6) sc_Session_explain.nd rfl (Or.inl rfl))) (fun _ _ _ _ _ => (pts_one (pt_cmpR (op_inD (hu65 hr)) (pe_tup (pa_cons (pv 2) (pa_cons (pv 3) pa_nil))) (pe_fld (pe_ix ix_list (pe_fld (pv 0) rfl) (pv 6) (fun _ _ => rfl)) rfl) (by rfl)))) (fun _ _ _ _ _ => (pv 6)))
      (pss_one (ps_ret (pe_ifExp (pt_cmpR (op_eqD hr.units) (pv 5) (pe_lst pa_nil) (nomark _)) (pe_lst (pa_cons (pe_gint rfl T.i_VISIBLE) pa_nil)) (pe_op op_cat (pe_lst (pa_cons pe_int pa_nil)) (pe_fcall G_told_row (hr.mono (by decide)) T.g_told_row pass0 (by exact (pa_cons (pv 5) pa_nil))))))))))))))
theorem ok_of_Session_explain (T : Txt K mg) {sp_Session_ask_branch : Sp} (G_Session_ask_branch : DOk P w K mg base (L2.CX P w) 4 (mad K "Session" "ask_branch") p_Session_ask_branch sp_Session_ask_branch) {sp_Session_ask_change : Sp} (G_Session_ask_change : DOk P w K mg base (L2.CX P w) 4 (mad K "Session" "ask_change") p_Session_ask_change sp_Session_ask_change) {sp_demand : Sp} (G_demand : DOk P w K mg base (L2.CX P w) 3 (gad K "demand") p_demand sp_demand) {sp_told_row : Sp} (G_told_row : DOk P w K mg base CX0 1 (gad K "told_row") p_told_row sp_told_row) {sp : Sp} (len : ∀ vs H Q E, sp vs H Q E → vs.length = 4)
    (h : ∀ vs H Q E, sp vs H Q E → t_Session_explain K P w E sp_Session_ask_branch sp_Session_ask_change sp_demand sp_told_row { nx := fun _ H' => Q .non H', rt := Q } (start N_Session_explain vs) H) : DOk P w K mg base (L2.CX P w) 5 (mad K "Session" "explain") p_Session_explain sp :=
  dok_of T.F_Session_explain sc_Session_explain len (fun _ _ _ _ _ _ us hl => match us, hl with | [_, _, _, _], _ => rfl) fun f cdv A outer s H vs Q E hr q => ⟨_, der_Session_explain T G_Session_ask_branch G_Session_ask_change G_demand G_told_row hr, h vs H Q E q⟩
abbrev s_Session_blame : Stmt := inClass (topS 35) 23
abbrev N_Session_blame : List Str := ["self", "branch", "order", "change", "number"]
abbrev p_Session_blame : List Str := ["self", "branch"]
theorem sc_Session_blame : FnScope N_Session_blame p_Session_blame (defScope s_Session_blame) := ⟨rfl, rfl, rfl, by decide +kernel, rfl, by decide +kernel, by decide +kernel⟩
def t_Session_blame (K : PySem.W.Frag) (P : Program) (w : World) (E : XK) (sp_Session_text_order : Sp) (sp_told_row : Sp) : TS :=
  (tSeq (tAsg (tMeth (gad K "Session") "text_order" sp_Session_text_order [] E (tVar 0) (tCons (tVar 1) tNil)) (gName 2))
    (tRet (tCall sp_told_row [] E0 (tCons (tLc (iList K (tFld K (tVar 2) "lines")) (gTup K 2 (gCons (gName 3) (gCons (gName 4) gNil))) tYes (tVar 3) [3, 4]) tNil))))
theorem der_Session_blame (T : Txt K mg) {sp_Session_text_order : Sp} (G_Session_text_order : DOk P w K mg base (L2.CX P w) 6 (mad K "Session" "text_order") p_Session_text_order sp_Session_text_order) {sp_told_row : Sp} (G_told_row : DOk P w K mg base CX0 1 (gad K "told_row") p_told_row sp_told_row) {f : Addr} {cdv : Value} {A : Around} {outer : List Env} {s : Shared} {H : Hp} {E : XK} (hr : Room 6 (A.deeper (envOfC "Session.blame" (defScope s_Session_blame) s.heap.objs.size f cdv))) :
    PSs (cxOf (L2.CX P w) P w K mg base N_Session_blame "Session.blame" (defScope s_Session_blame) f cdv A outer s H E) (defBody s_Session_blame) (t_Session_blame K P w E sp_Session_text_order sp_told_row) :=
  (pss_cons (ps_set (i := 2) sc_Session_blame.nd rfl (Or.inl rfl) (pe_mcall G_Session_text_order (hr.mono (by decide)) T.cl_Session T.m_Session_text_order (passes_call (takes_of rfl rfl rfl rfl) (fun _ _ _ _ h => h)) (pv 0) (by exact (pa_cons (pv 1) pa_nil))))
      (PSs.nox (pss_one (ps_ret (pe_fcall G_told_row (hr.mono (by decide)) T.g_told_row pass0 (by exact (pa_cons (pe_lc (own := [("change", 3), ("number", 4)]) rfl sc_Session_blame.nd (pi_list (pe_fld (pv 2) rfl)) (blkOk_by (own := [("change", 3), ("number", 4)]) (N := N_Session_blame) (sc := defScope s_Session_blame) (by decide +kernel)) (fun _ _ _ _ _ => (pg_tup rfl (pgs_cons (pg_name (i := 3) sc_Session_blame.nd rfl (Or.inl rfl)) (pgs_cons (pg_name (i := 4) sc_Session_blame.nd rfl (Or.inl rfl)) pgs_nil)))) (fun _ _ _ _ _ => pts_nil) (fun _ _ _ _ _ => (pv 3))) pa_nil)))))))
theorem ok_of_Session_blame (T : Txt K mg) {sp_Session_text_order : Sp} (G_Session_text_order : DOk P w K mg base (L2.CX P w) 6 (mad K "Session" "text_order") p_Session_text_order sp_Session_text_order) {sp_told_row : Sp} (G_told_row : DOk P w K mg base CX0 1 (gad K "told_row") p_told_row sp_told_row) {sp : Sp} (len : ∀ vs H Q E, sp vs H Q E → vs.length = 2)
    (h : ∀ vs H Q E, sp vs H Q E → t_Session_blame K P w E sp_Session_text_order sp_told_row { nx := fun _ H' => Q .non H', rt := Q } (start N_Session_blame vs) H) : DOk P w K mg base (L2.CX P w) 7 (mad K "Session" "blame") p_Session_blame sp :=
  dok_of T.F_Session_blame sc_Session_blame len (fun _ _ _ _ _ _ us hl => match us, hl with | [_, _], _ => rfl) fun f cdv A outer s H vs Q E hr q => ⟨_, der_Session_blame T G_Session_text_order G_told_row hr, h vs H Q E q⟩
abbrev s_Session_of_making : Stmt := inClass (topS 35) 24
abbrev N_Session_of_making : List Str := ["self", "number", "own", "some"]
abbrev p_Session_of_making : List Str := ["self", "number", "own", "some"]
theorem sc_Session_of_making : FnScope N_Session_of_making p_Session_of_making (defScope s_Session_of_making) := ⟨rfl, rfl, rfl, by decide +kernel, rfl, by decide +kernel, by decide +kernel⟩
def t_Session_of_making (K : PySem.W.Frag) (P : Program) (w : World) (E : XK) (sp_Session_fork : Sp) (sp_Session_write : Sp) (sp_Session_delete : Sp) (sp_Session_apply : Sp) (sp_Session_merge : Sp) (sp_Session_revert : Sp) : TS :=
  (tSeq (tIfS (tTest (tOp rEq (tVar 1) (tC (.int 0)))) (tRet (tMeth (gad K "Session") "fork" sp_Session_fork [] E (tVar 0) (tCons (tOp (rIxL K) (tVar 2) (tC (.int 0))) tNil))) tNext)
    (tSeq (tIfS (tTest (tOp rEq (tVar 1) (tC (.int 1)))) (tRet (tMeth (gad K "Session") "write" sp_Session_write [] E (tVar 0) (tCons (tOp (rIxL K) (tVar 2) (tC (.int 0))) (tCons (tVar 3) tNil)))) tNext)
    (tSeq (tIfS (tTest (tOp rEq (tVar 1) (tC (.int 2)))) (tRet (tMeth (gad K "Session") "delete" sp_Session_delete [] E (tVar 0) (tCons (tOp (rIxL K) (tVar 2) (tC (.int 0))) (tCons (tVar 3) tNil)))) tNext)
    (tSeq (tIfS (tTest (tOp rEq (tVar 1) (tC (.int 3)))) (tRet (tMeth (gad K "Session") "apply" sp_Session_apply [] E (tVar 0) (tCons (tOp (rIxL K) (tVar 2) (tC (.int 0))) (tCons (tOp (rIxL K) (tVar 2) (tC (.int 1))) tNil)))) tNext)
    (tRet (tIf (tTest (tOp rEq (tVar 1) (tC (.int 4)))) (tMeth (gad K "Session") "merge" sp_Session_merge [] E (tVar 0) (tCons (tOp (rIxL K) (tVar 2) (tC (.int 0))) (tCons (tOp (rIxL K) (tVar 2) (tC (.int 1))) tNil))) (tMeth (gad K "Session") "revert" sp_Session_revert [] E (tVar 0) (tCons (tOp (rIxL K) (tVar 2) (tC (.int 0))) (tCons (tOp (rIxL K) (tVar 2) (tC (.int 1))) tNil)))))))))
theorem der_Session_of_making (T : Txt K mg) {sp_Session_fork : Sp} (G_Session_fork : DOk P w K mg base (L2.CX P w) 5 (mad K "Session" "fork") p_Session_fork sp_Session_fork) {sp_Session_write : Sp} (G_Session_write : DOk P w K mg base (L2.CX P w) 6 (mad K "Session" "write") p_Session_write sp_Session_write) {sp_Session_delete : Sp} (G_Session_delete : DOk P w K mg base (L2.CX P w) 6 (mad K "Session" "delete") p_Session_delete sp_Session_delete) {sp_Session_apply : Sp} (G_Session_apply : DOk P w K mg base (L2.CX P w) 5 (mad K "Session" "apply") p_Session_apply sp_Session_apply) {sp_Session_merge : Sp} (G_Session_merge : DOk P w K mg base (L2.CX P w) 5 (mad K "Session" "merge") p_Session_merge sp_Session_merge) {sp_Session_revert : Sp} (G_Session_revert : DOk P w K mg base (L2.CX P w) 5 (mad K "Session" "revert") p_Session_revert sp_Session_revert) {f : Addr} {cdv : Value} {A : Around} {outer : List Env} {s : Shared} {H : Hp} {E : XK} (hr : Room 6 (A.deeper (envOfC "Session.of_making" (defScope s_Session_of_making) s.heap.objs.size f cdv))) :
    PSs (cxOf (L2.CX P w) P w K mg base N_Session_of_making "Session.of_making" (defScope s_Session_of_making) f cdv A outer s H E) (defBody s_Session_of_making) (t_Session_of_making K P w E sp_Session_fork sp_Session_write sp_Session_delete sp_Session_apply sp_Session_merge sp_Session_revert) :=
  (pss_cons (ps_if (pt_cmpR op_eq (pv 1) pe_int (nomark _)) (pss_one (ps_ret (pe_mcall G_Session_fork (hr.mono (by decide)) T.cl_Session T.m_Session_fork (passes_call (takes_of rfl rfl rfl rfl) (fun _ _ _ _ h => h)) (pv 0) (by exact (pa_cons (pe_ix ix_list (pv 2) pe_int (fun _ _ => rfl)) pa_nil))))) pss_nil)
      (pss_cons (ps_if (pt_cmpR op_eq (pv 1) pe_int (nomark _)) (pss_one (ps_ret (pe_mcall G_Session_write (hr.mono (by decide)) T.cl_Session T.m_Session_write (passes_call (takes_of rfl rfl rfl rfl) (fun _ _ _ _ h => h)) (pv 0) (by exact (pa_cons (pe_ix ix_list (pv 2) pe_int (fun _ _ => rfl)) (pa_cons (pv 3) pa_nil)))))) pss_nil)
      (pss_cons (ps_if (pt_cmpR op_eq (pv 1) pe_int (nomark _)) (pss_one (ps_ret (pe_mcall G_Session_delete (hr.mono (by decide)) T.cl_Session T.m_Session_delete (passes_call (takes_of rfl rfl rfl rfl) (fun _ _ _ _ h => h)) (pv 0) (by exact (pa_cons (pe_ix ix_list (pv 2) pe_int (fun _ _ => rfl)) (pa_cons (pv 3) pa_nil)))))) pss_nil)
      (pss_cons (ps_if (pt_cmpR op_eq (pv 1) pe_int (nomark _)) (pss_one (ps_ret (pe_mcall G_Session_apply (hr.mono (by decide)) T.cl_Session T.m_Session_apply (passes_call (takes_of rfl rfl rfl rfl) (fun _ _ _ _ h => h)) (pv 0) (by exact (pa_cons (pe_ix ix_list (pv 2) pe_int (fun _ _ => rfl)) (pa_cons (pe_ix ix_list (pv 2) pe_int (fun _ _ => rfl)) pa_nil)))))) pss_nil)
      (pss_one (ps_ret (pe_ifExp (pt_cmpR op_eq (pv 1) pe_int (nomark _)) (pe_mcall G_Session_merge (hr.mono (by decide)) T.cl_Session T.m_Session_merge (passes_call (takes_of rfl rfl rfl rfl) (fun _ _ _ _ h => h)) (pv 0) (by exact (pa_cons (pe_ix ix_list (pv 2) pe_int (fun _ _ => rfl)) (pa_cons (pe_ix ix_list (pv 2) pe_int (fun _ _ => rfl)) pa_nil)))) (pe_mcall G_Session_revert (hr.mono (by decide)) T.cl_Session T.m_Session_revert (passes_call (takes_of rfl rfl rfl rfl) (fun _ _ _ _ h => h)) (pv 0) (by exact (pa_cons (pe_ix ix_list (pv 2) pe_int (fun _ _ => rfl)) (pa_cons (pe_ix ix_list (pv 2) pe_int (fun _ _ => rfl)) pa_nil)))))))))))
theorem ok_of_Session_of_making (T : Txt K mg) {sp_Session_fork : Sp} (G_Session_fork : DOk P w K mg base (L2.CX P w) 5 (mad K "Session" "fork") p_Session_fork sp_Session_fork) {sp_Session_write : Sp} (G_Session_write : DOk P w K mg base (L2.CX P w) 6 (mad K "Session" "write") p_Session_write sp_Session_write) {sp_Session_delete : Sp} (G_Session_delete : DOk P w K mg base (L2.CX P w) 6 (mad K "Session" "delete") p_Session_delete sp_Session_delete) {sp_Session_apply : Sp} (G_Session_apply : DOk P w K mg base (L2.CX P w) 5 (mad K "Session" "apply") p_Session_apply sp_Session_apply) {sp_Session_merge : Sp} (G_Session_merge : DOk P w K mg base (L2.CX P w) 5 (mad K "Session" "merge") p_Session_merge sp_Session_merge) {sp_Session_revert : Sp} (G_Session_revert : DOk P w K mg base (L2.CX P w) 5 (mad K "Session" "revert") p_Session_revert sp_Session_revert) {sp : Sp} (len : ∀ vs H Q E, sp vs H Q E → vs.length = 4)
    (h : ∀ vs H Q E, sp vs H Q E → t_Session_of_making K P w E sp_Session_fork sp_Session_write sp_Session_delete sp_Session_apply sp_Session_merge sp_Session_revert { nx := fun _ H' => Q .non H', rt := Q } (start N_Session_of_making vs) H) : DOk P w K mg base (L2.CX P w) 7 (mad K "Session" "of_making") p_Session_of_making sp :=
  dok_of T.F_Session_of_making sc_Session_of_making len (fun _ _ _ _ _ _ us hl => match us, hl with | [_, _, _, _], _ => rfl) fun f cdv A outer s H vs Q E hr q => ⟨_, der_Session_of_making T G_Session_fork G_Session_write G_Session_delete G_Session_apply G_Session_merge G_Session_revert hr, h vs H Q E q⟩
abbrev s_Session_of_asking : Stmt := inClass (topS 35) 25
abbrev N_Session_of_asking : List Str := ["self", "number", "own"]
abbrev p_Session_of_asking : List Str := ["self", "number", "own"]
theorem sc_Session_of_asking : FnScope N_Session_of_asking p_Session_of_asking (defScope s_Session_of_asking) := ⟨rfl, rfl, rfl, by decide +kernel, rfl, by decide +kernel, by decide +kernel⟩
def t_Session_of_asking (K : PySem.W.Frag) (P : Program) (w : World) (E : XK) (sp_Session_show : Sp) (sp_Session_shown_lines : Sp) (sp_Session_change : Sp) (sp_Session_requirements : Sp) (sp_Session_apply_all : Sp) (sp_Session_revert_all : Sp) (sp_Session_explain : Sp) (sp_Session_blame : Sp) : TS :=
  (tSeq (tIfS (tTest (tOp rEq (tVar 1) (tC (.int 6)))) (tRet (tMeth (gad K "Session") "show" sp_Session_show [] E (tVar 0) (tCons (tOp (rIxL K) (tVar 2) (tC (.int 0))) tNil))) tNext)
    (tSeq (tIfS (tTest (tOp rEq (tVar 1) (tC (.int 7)))) (tRet (tMeth (gad K "Session") "shown_lines" sp_Session_shown_lines [] E (tVar 0) (tCons (tOp (rIxL K) (tVar 2) (tC (.int 0))) tNil))) tNext)
    (tSeq (tIfS (tTest (tOp rEq (tVar 1) (tC (.int 8)))) (tRet (tMeth (gad K "Session") "change" sp_Session_change [] E (tVar 0) (tCons (tOp (rIxL K) (tVar 2) (tC (.int 0))) tNil))) tNext)
    (tSeq (tIfS (tTest (tOp rEq (tVar 1) (tC (.int 9)))) (tRet (tMeth (gad K "Session") "requirements" sp_Session_requirements [] E (tVar 0) (tCons (tOp (rIxL K) (tVar 2) (tC (.int 0))) tNil))) tNext)
    (tSeq (tIfS (tTest (tOp rEq (tVar 1) (tC (.int 10)))) (tRet (tMeth (gad K "Session") "apply_all" sp_Session_apply_all [] E (tVar 0) (tCons (tOp (rIxL K) (tVar 2) (tC (.int 0))) (tCons (tOp (rIxL K) (tVar 2) (tC (.int 1))) tNil)))) tNext)
    (tSeq (tIfS (tTest (tOp rEq (tVar 1) (tC (.int 11)))) (tRet (tMeth (gad K "Session") "revert_all" sp_Session_revert_all [] E (tVar 0) (tCons (tOp (rIxL K) (tVar 2) (tC (.int 0))) (tCons (tOp (rIxL K) (tVar 2) (tC (.int 1))) tNil)))) tNext)
    (tRet (tIf (tTest (tOp rEq (tVar 1) (tC (.int 12)))) (tMeth (gad K "Session") "explain" sp_Session_explain [] E (tVar 0) (tCons (tOp (rIxL K) (tVar 2) (tC (.int 0))) (tCons (tOp (rIxL K) (tVar 2) (tC (.int 1))) (tCons (tOp (rIxL K) (tVar 2) (tC (.int 2))) tNil)))) (tMeth (gad K "Session") "blame" sp_Session_blame [] E (tVar 0) (tCons (tOp (rIxL K) (tVar 2) (tC (.int 0))) tNil))))))))))
theorem der_Session_of_asking (T : Txt K mg) {sp_Session_show : Sp} (G_Session_show : DOk P w K mg base (L2.CX P w) 7 (mad K "Session" "show") p_Session_show sp_Session_show) {sp_Session_shown_lines : Sp} (G_Session_shown_lines : DOk P w K mg base (L2.CX P w) 6 (mad K "Session" "shown_lines") p_Session_shown_lines sp_Session_shown_lines) {sp_Session_change : Sp} (G_Session_change : DOk P w K mg base (L2.CX P w) 5 (mad K "Session" "change") p_Session_change sp_Session_change) {sp_Session_requirements : Sp} (G_Session_requirements : DOk P w K mg base (L2.CX P w) 5 (mad K "Session" "requirements") p_Session_requirements sp_Session_requirements) {sp_Session_apply_all : Sp} (G_Session_apply_all : DOk P w K mg base (L2.CX P w) 5 (mad K "Session" "apply_all") p_Session_apply_all sp_Session_apply_all) {sp_Session_revert_all : Sp} (G_Session_revert_all : DOk P w K mg base (L2.CX P w) 5 (mad K "Session" "revert_all") p_Session_revert_all sp_Session_revert_all) {sp_Session_explain : Sp} (G_Session_explain : DOk P w K mg base (L2.CX P w) 5 (mad K "Session" "explain") p_Session_explain sp_Session_explain) {sp_Session_blame : Sp} (G_Session_blame : DOk P w K mg base (L2.CX P w) 7 (mad K "Session" "blame") p_Session_blame sp_Session_blame) {f : Addr} {cdv : Value} {A : Around} {outer : List Env} {s : Shared} {H : Hp} {E : XK} (hr : Room 7 (A.deeper (envOfC "Session.of_asking" (defScope s_Session_of_asking) s.heap.objs.size f cdv))) :
    PSs (cxOf (L2.CX P w) P w K mg base N_Session_of_asking "Session.of_asking" (defScope s_Session_of_asking) f cdv A outer s H E) (defBody s_Session_of_asking) (t_Session_of_asking K P w E sp_Session_show sp_Session_shown_lines sp_Session_change sp_Session_requirements sp_Session_apply_all sp_Session_revert_all sp_Session_explain sp_Session_blame) :=
  (pss_cons (ps_if (pt_cmpR op_eq (pv 1) pe_int (nomark _)) (pss_one (ps_ret (pe_mcall G_Session_show (hr.mono (by decide)) T.cl_Session T.m_Session_show (passes_call (takes_of rfl rfl rfl rfl) (fun _ _ _ _ h => h)) (pv 0) (by exact (pa_cons (pe_ix ix_list (pv 2) pe_int (fun _ _ => rfl)) pa_nil))))) pss_nil)
      (pss_cons (ps_if (pt_cmpR op_eq (pv 1) pe_int (nomark _)) (pss_one (ps_ret (pe_mcall G_Session_shown_lines (hr.mono (by decide)) T.cl_Session T.m_Session_shown_lines (passes_call (takes_of rfl rfl rfl rfl) (fun _ _ _ _ h => h)) (pv 0) (by exact (pa_cons (pe_ix ix_list (pv 2) pe_int (fun _ _ => rfl)) pa_nil))))) pss_nil)
      (pss_cons (ps_if (pt_cmpR op_eq (pv 1) pe_int (nomark _)) (pss_one (ps_ret (pe_mcall G_Session_change (hr.mono (by decide)) T.cl_Session T.m_Session_change (passes_call (takes_of rfl rfl rfl rfl) (fun _ _ _ _ h => h)) (pv 0) (by exact (pa_cons (pe_ix ix_list (pv 2) pe_int (fun _ _ => rfl)) pa_nil))))) pss_nil)
      (pss_cons (ps_if (pt_cmpR op_eq (pv 1) pe_int (nomark _)) (pss_one (ps_ret (pe_mcall G_Session_requirements (hr.mono (by decide)) T.cl_Session T.m_Session_requirements (passes_call (takes_of rfl rfl rfl rfl) (fun _ _ _ _ h => h)) (pv 0) (by exact (pa_cons (pe_ix ix_list (pv 2) pe_int (fun _ _ => rfl)) pa_nil))))) pss_nil)
      (pss_cons (ps_if (pt_cmpR op_eq (pv 1) pe_int (nomark _)) (pss_one (ps_ret (pe_mcall G_Session_apply_all (hr.mono (by decide)) T.cl_Session T.m_Session_apply_all (passes_call (takes_of rfl rfl rfl rfl) (fun _ _ _ _ h => h)) (pv 0) (by exact (pa_cons (pe_ix ix_list (pv 2) pe_int (fun _ _ => rfl)) (pa_cons (pe_ix ix_list (pv 2) pe_int (fun _ _ => rfl)) pa_nil)))))) pss_nil)
      (pss_cons (ps_if (pt_cmpR op_eq (pv 1) pe_int (nomark _)) (pss_one (ps_ret (pe_mcall G_Session_revert_all (hr.mono (by decide)) T.cl_Session T.m_Session_revert_all (passes_call (takes_of rfl rfl rfl rfl) (fun _ _ _ _ h => h)) (pv 0) (by exact (pa_cons (pe_ix ix_list (pv 2) pe_int (fun _ _ => rfl)) (pa_cons (pe_ix ix_list (pv 2) pe_int (fun _ _ => rfl)) pa_nil)))))) pss_nil)
      (pss_one (ps_ret (pe_ifExp (pt_cmpR op_eq (pv 1) pe_int (nomark _)) (pe_mcall G_Session_explain (hr.mono (by decide)) T.cl_Session T.m_Session_explain (passes_call (takes_of rfl rfl rfl rfl) (fun _ _ _ _ h => h)) (pv 0) (by exact (pa_cons (pe_ix ix_list (pv 2) pe_int (fun _ _ => rfl)) (pa_cons (pe_ix ix_list (pv 2) pe_int (fun _ _ => rfl)) (pa_cons (pe_ix ix_list (pv 2) pe_int (fun _ _ => rfl)) pa_nil))))) (pe_mcall G_Session_blame (hr.mono (by decide)) T.cl_Session T.m_Session_blame (passes_call (takes_of rfl rfl rfl rfl) (fun _ _ _ _ h => h)) (pv 0) (by exact (pa_cons (pe_ix ix_list (pv 2) pe_int (fun _ _ => rfl)) pa_nil))))))))))))
theorem ok_of_Session_of_asking (T : Txt K mg) {sp_Session_show : Sp} (G_Session_show : DOk P w K mg base (L2.CX P w) 7 (mad K "Session" "show") p_Session_show sp_Session_show) {sp_Session_shown_lines : Sp} (G_Session_shown_lines : DOk P w K mg base (L2.CX P w) 6 (mad K "Session" "shown_lines") p_Session_shown_lines sp_Session_shown_lines) {sp_Session_change : Sp} (G_Session_change : DOk P w K mg base (L2.CX P w) 5 (mad K "Session" "change") p_Session_change sp_Session_change) {sp_Session_requirements : Sp} (G_Session_requirements : DOk P w K mg base (L2.CX P w) 5 (mad K "Session" "requirements") p_Session_requirements sp_Session_requirements) {sp_Session_apply_all : Sp} (G_Session_apply_all : DOk P w K mg base (L2.CX P w) 5 (mad K "Session" "apply_all") p_Session_apply_all sp_Session_apply_all) {sp_Session_revert_all : Sp} (G_Session_revert_all : DOk P w K mg base (L2.CX P w) 5 (mad K "Session" "revert_all") p_Session_revert_all sp_Session_revert_all) {sp_Session_explain : Sp} (G_Session_explain : DOk P w K mg base (L2.CX P w) 5 (mad K "Session" "explain") p_Session_explain sp_Session_explain) {sp_Session_blame : Sp} (G_Session_blame : DOk P w K mg base (L2.CX P w) 7 (mad K "Session" "blame") p_Session_blame sp_Session_blame) {sp : Sp} (len : ∀ vs H Q E, sp vs H Q E → vs.length = 3)
    (h : ∀ vs H Q E, sp vs H Q E → t_Session_of_asking K P w E sp_Session_show sp_Session_shown_lines sp_Session_change sp_Session_requirements sp_Session_apply_all sp_Session_revert_all sp_Session_explain sp_Session_blame { nx := fun _ H' => Q .non H', rt := Q } (start N_Session_of_asking vs) H) : DOk P w K mg base (L2.CX P w) 8 (mad K "Session" "of_asking") p_Session_of_asking sp :=
  dok_of T.F_Session_of_asking sc_Session_of_asking len (fun _ _ _ _ _ _ us hl => match us, hl with | [_, _, _], _ => rfl) fun f cdv A outer s H vs Q E hr q => ⟨_, der_Session_of_asking T G_Session_show G_Session_shown_lines G_Session_change G_Session_requirements G_Session_apply_all G_Session_revert_all G_Session_explain G_Session_blame hr, h vs H Q E q⟩
abbrev s_Session_answer : Stmt := inClass (topS 35) 26
abbrev N_Session_answer : List Str := ["self", "number", "own", "some", "e"]
abbrev p_Session_answer : List Str := ["self", "number", "own", "some"]
theorem sc_Session_answer : FnScope N_Session_answer p_Session_answer (defScope s_Session_answer) := ⟨rfl, rfl, rfl, by decide +kernel, rfl, by decide +kernel, by decide +kernel⟩
def tb_Session_answer (K : PySem.W.Frag) (sp_Session_of_making sp_Session_of_asking : Sp) (W : WX) : TS := tRet (tIf (tTest (tOp rLtI (tVar 1) (tC (.int 6)))) (tMethSD (gad K "Session") "of_making" sp_Session_of_making (WE W) (tVar 0) (tCons (tVar 1) (tCons (tVar 2) (tCons (tVar 3) tNil)))) (tMethSD (gad K "Session") "of_asking" sp_Session_of_asking (WE W) (tVar 0) (tCons (tVar 1) (tCons (tVar 2) tNil))))
def ts_Session_answer (K : PySem.W.Frag) : Addr → Value → Option Addr → TS := fun a cls d => tRet (tToldRef (gad K "Refused") a cls d (tVar 4))
def t_Session_answer (K : PySem.W.Frag) (P : Program) (w : World) (sp_Session_of_making sp_Session_of_asking : Sp) : TS := fun D σ H => tb_Session_answer K sp_Session_of_making sp_Session_of_asking (wAs K (.ref (gad K "Refused")) 4 (ts_Session_answer K) (fun _ _ _ _ => False) D) D σ H
theorem der_Session_answer (T : Txt K mg) {sp_Session_of_making : Sp} (G_Session_of_making : DOk P w K mg base (L2.CX P w) 7 (mad K "Session" "of_making") p_Session_of_making sp_Session_of_making) {sp_Session_of_asking : Sp} (G_Session_of_asking : DOk P w K mg base (L2.CX P w) 8 (mad K "Session" "of_asking") p_Session_of_asking sp_Session_of_asking) {f : Addr} {cdv : Value} {A : Around} {outer : List Env} {s : Shared} {H : Hp} {E : XK} (hr : Room 8 (A.deeper (envOfC "Session.answer" (defScope s_Session_answer) s.heap.objs.size f cdv))) :
    PSs (cxOf CX0 P w K mg base N_Session_answer "Session.answer" (defScope s_Session_answer) f cdv A outer s H E).nox (defBody s_Session_answer) (t_Session_answer K P w sp_Session_of_making sp_Session_of_asking) :=
  pss_one (ps_try_as (i := 4) (tb := tb_Session_answer K sp_Session_of_making sp_Session_of_asking) (ts := ts_Session_answer K) (Wout := fun _ _ _ _ => False) rfl rfl sc_Session_answer.nd rfl rfl ⟨rfl, by decide, Or.inl T.refx.gC⟩ takes0
    (fun W pn xe tk _ => pss_one (ps_ret (pe_ifExp (pt_cmpR op_lt (pv 1) pe_int (nomark _)) (pe_methSD G_Session_of_making (hr.mono (by decide)) T.cl_Session T.m_Session_of_making (fun σ => passAt tk σ) (pv 0) (by exact (pa_cons (pv 1) (pa_cons (pv 2) (pa_cons (pv 3) pa_nil))))) (pe_methSD G_Session_of_asking (hr.mono (by decide)) T.cl_Session T.m_Session_of_asking (fun σ => passAt tk σ) (pv 0) (by exact (pa_cons (pv 1) (pa_cons (pv 2) pa_nil)))))))
    (fun a oe cls d pn hz hf => pss_one (ps_ret (by exact (pe_toldRef T.refx hz hf (pv 4))))))
theorem ok_of_Session_answer (T : Txt K mg) {sp_Session_of_making : Sp} (G_Session_of_making : DOk P w K mg base (L2.CX P w) 7 (mad K "Session" "of_making") p_Session_of_making sp_Session_of_making) {sp_Session_of_asking : Sp} (G_Session_of_asking : DOk P w K mg base (L2.CX P w) 8 (mad K "Session" "of_asking") p_Session_of_asking sp_Session_of_asking) {sp : Sp} (len : ∀ vs H Q E, sp vs H Q E → vs.length = 4)
    (h : ∀ vs H Q E, sp vs H Q E → t_Session_answer K P w sp_Session_of_making sp_Session_of_asking { nx := fun _ H' => Q .non H', rt := Q } (start N_Session_answer vs) H) : DOk P w K mg base CX0 9 (mad K "Session" "answer") p_Session_answer sp :=
  dok_of T.F_Session_answer sc_Session_answer len (fun _ _ _ _ _ _ us hl => match us, hl with | [_, _, _, _], _ => rfl) fun f cdv A outer s H vs Q E hr q => ⟨_, (der_Session_answer T G_Session_of_making G_Session_of_asking hr).nox, h vs H Q E q⟩
abbrev s_answers : Stmt := topS 36
abbrev N_answers : List Str := ["calls", "session", "found", "at", "answer", "number", "many", "own", "some"]
abbrev p_answers : List Str := ["calls"]
theorem sc_answers : FnScope N_answers p_answers (defScope s_answers) := ⟨rfl, rfl, rfl, by decide +kernel, rfl, by decide +kernel, by decide +kernel⟩
def t_answers (K : PySem.W.Frag) (P : Program) (w : World) (sp_Session_init : Sp) (sp_Session_answer : Sp) : TS :=
  (tSeq (tPar3 1 2 3 (tCons (tMake (gad K "Session") sp_Session_init [] E0 tNil) (tCons (tLst tNil) (tCons (tC (.int 0)) tNil))))
    (tSeq (tWhile (tTest (tOp rLtI (tVar 3) (tCB (rLen K) (tCons (tVar 0) tNil)))) (tSeq (tPar 5 6 (tCons (tOp (rIxL K) (tVar 0) (tVar 3)) (tCons (tOp (rIxT K) (tC (.ref (gad K "NUMBERS"))) (tOp (rIxL K) (tVar 0) (tVar 3))) tNil)))
    (tSeq (tPar 7 8 (tCons (tSl (rSlL K) (tVar 0) (tPart (tOp rAddI (tVar 3) (tC (.int 1)))) (tPart (tOp rAddI (tOp rAddI (tVar 3) (tC (.int 1))) (tVar 6)))) (tCons (tLst tNil) tNil)))
    (tSeq (tAug 3 (tOp rAddI (tC (.int 1)) (tVar 6)) (ipI fun i j => i + j))
    (tSeq (tIfS (tTest (tOp (rIn K false) (tVar 5) (tC (.ref (gad K "WITH_LIST"))))) (tSeq (tAsg (tSl (rSlL K) (tVar 0) (tPart (tOp rAddI (tVar 3) (tC (.int 1)))) (tPart (tOp rAddI (tOp rAddI (tVar 3) (tC (.int 1))) (tOp (rIxL K) (tVar 0) (tVar 3))))) (gName 8))
    (tAug 3 (tOp rAddI (tC (.int 1)) (tOp (rIxL K) (tVar 0) (tVar 3))) (ipI fun i j => i + j))) tNext)
    (tSeq (tAsg (tMeth (gad K "Session") "answer" sp_Session_answer [] E0 (tVar 1) (tCons (tVar 5) (tCons (tVar 7) (tCons (tVar 8) tNil)))) (gName 4))
    (tSeq (tDrop (tBM K "list" rAppend (tVar 2) (tCons (tCB (rLen K) (tCons (tVar 4) tNil)) tNil)))
    (tDrop (tBM K "list" rExtend (tVar 2) (tCons (tVar 4) tNil))))))))))
    (tRet (tVar 2))))
theorem der_answers (T : Txt K mg) {sp_Session_init : Sp} (G_Session_init : DOk P w K mg base CX0 1 (mad K "Session" "__init__") p_Session_init sp_Session_init) {sp_Session_answer : Sp} (G_Session_answer : DOk P w K mg base CX0 9 (mad K "Session" "answer") p_Session_answer sp_Session_answer) {f : Addr} {cdv : Value} {A : Around} {outer : List Env} {s : Shared} {H : Hp} {E : XK} (hr : Room 9 (A.deeper (envOfC "answers" (defScope s_answers) s.heap.objs.size f cdv))) :
    PSs (cxOf CX0 P w K mg base N_answers "answers" (defScope s_answers) f cdv A outer s H E).nox (defBody s_answers) (t_answers K P w sp_Session_init sp_Session_answer) :=
  (pss_cons (ps_par3 (i := 1) (j := 2) (l := 3) rfl sc_answers.nd rfl rfl rfl (by decide) (by decide) (by decide) rfl rfl rfl (by exact (pa_cons (pe_mnew0 G_Session_init T.k_Session (hr.mono (by decide)) T.g_Session pass0) (pa_cons (pe_lst pa_nil) (pa_cons pe_int pa_nil)))) (by rfl))
      (pss_cons (ps_while PassesOwn.never (pt_cmpR op_lt (pv 3) (pe_callB c_len (by rfl) T.n_len PySem.boot_len (pa_cons (pv 0) pa_nil)) (nomark _)) (pss_cons (ps_par (i := 5) (j := 6) rfl sc_answers.nd rfl rfl (by decide) rfl rfl (by exact (pa_cons (pe_ix ix_list (pv 0) (pv 3) (fun _ _ => rfl)) (pa_cons (pe_ix ix_tup (pe_glob rfl T.g_NUMBERS rfl) (pe_ix ix_list (pv 0) (pv 3) (fun _ _ => rfl)) (fun _ _ => rfl)) pa_nil))) (by rfl))
      (pss_cons (ps_par (i := 7) (j := 8) rfl sc_answers.nd rfl rfl (by decide) rfl rfl (by exact (pa_cons (pe_slice sl_list (pv 0) (po_some (pe_op op_add (pv 3) pe_int)) (po_some (pe_op op_add (pe_op op_add (pv 3) pe_int) (pv 6)))) (pa_cons (pe_lst pa_nil) pa_nil))) (by rfl))
      (pss_cons (ps_aug (i := 3) sc_answers.nd rfl (Or.inl rfl) (pe_op op_add pe_int (pv 6)) ip_add)
      (pss_cons (ps_if (pt_cmpR op_in_seq (pv 5) (pe_glob rfl T.g_WITH_LIST rfl) (by rfl)) (pss_cons (ps_set (i := 8) sc_answers.nd rfl (Or.inl rfl) (pe_slice sl_list (pv 0) (po_some (pe_op op_add (pv 3) pe_int)) (po_some (pe_op op_add (pe_op op_add (pv 3) pe_int) (pe_ix ix_list (pv 0) (pv 3) (fun _ _ => rfl))))))
      (pss_one (ps_aug (i := 3) sc_answers.nd rfl (Or.inl rfl) (pe_op op_add pe_int (pe_ix ix_list (pv 0) (pv 3) (fun _ _ => rfl))) ip_add))) pss_nil)
      (pss_cons (ps_set (i := 4) sc_answers.nd rfl (Or.inl rfl) (pe_mcall G_Session_answer (hr.mono (by decide)) T.cl_Session T.m_Session_answer pass0 (pv 1) (by exact (pa_cons (pv 5) (pa_cons (pv 7) (pa_cons (pv 8) pa_nil))))))
      (pss_cons (ps_expr (pe_bm PySem.F.plainAttrs_list PySem.F.slot_list_append PySem.F.type_list_append mt_append (pv 2) (pa_cons (pe_callB c_len (by rfl) T.n_len PySem.boot_len (pa_cons (pv 4) pa_nil)) pa_nil)))
      (pss_one (ps_expr (pe_bm PySem.F.plainAttrs_list PySem.F.slot_list_extend PySem.F.type_list_extend mt_extend (pv 2) (pa_cons (pv 4) pa_nil)))))))))))
      (pss_one (ps_ret (pv 2)))))
theorem ok_of_answers (T : Txt K mg) {sp_Session_init : Sp} (G_Session_init : DOk P w K mg base CX0 1 (mad K "Session" "__init__") p_Session_init sp_Session_init) {sp_Session_answer : Sp} (G_Session_answer : DOk P w K mg base CX0 9 (mad K "Session" "answer") p_Session_answer sp_Session_answer) {sp : Sp} (len : ∀ vs H Q E, sp vs H Q E → vs.length = 1)
    (h : ∀ vs H Q E, sp vs H Q E → t_answers K P w sp_Session_init sp_Session_answer { nx := fun _ H' => Q .non H', rt := Q } (start N_answers vs) H) : DOk P w K mg base CX0 10 (gad K "answers") p_answers sp :=
  dok_of T.F_answers sc_answers len (fun _ _ _ _ _ _ us hl => match us, hl with | [_], _ => rfl) fun f cdv A outer s H vs Q E hr q => ⟨_, (der_answers T G_Session_init G_Session_answer hr).nox, h vs H Q E q⟩
end
end Lg

-- ==== LgStep ====
set_option Elab.async false
set_option linter.all false
set_option maxRecDepth 100000
set_option maxHeartbeats 4000000
/-! LgStep: fields by name, sizes, steps of readings, loops over what stands, the session's heap. -/
namespace Lg
open PySem PySem.Spec PyProof.Rows L2
open Gf11 (Line Position Change Hunk State)

theorem szl {n : Nat} (h : n ≤ 16000000) : n ≤ sizeLine := by
  rw [sizeLine_eq]
  omega
theorem szlt {n : Nat} (h : n < 16000000) : n < sizeLine := by
  rw [sizeLine_eq]
  omega

/-! ### fields -/
theorem lk_here {k : Str} {v : V} {r : List (Str × V)} : List.lookup k ((k, v) :: r) = some v := by
  have e : (k == k) = true := beq_self_eq_true k
  simp only [List.lookup, e]
theorem lk_past {k g : Str} {v : V} {r : List (Str × V)} (h : (k == g) = false) : List.lookup k ((g, v) :: r) = List.lookup k r := by
  simp only [List.lookup, h]
section
variable {x y z u : V}
abbrev fC (x y z u : V) : List (Str × V) := [("number", x), ("hunks", y), ("deleted", z), ("lines", u)]
theorem fC_number : List.lookup ("number" : Str) (fC x y z u) = some x := lk_here
theorem fC_hunks : List.lookup ("hunks" : Str) (fC x y z u) = some y := (lk_past (by decide +kernel)).trans lk_here
theorem fC_deleted : List.lookup ("deleted" : Str) (fC x y z u) = some z := (lk_past (by decide +kernel)).trans ((lk_past (by decide +kernel)).trans lk_here)
theorem fC_lines : List.lookup ("lines" : Str) (fC x y z u) = some u := (lk_past (by decide +kernel)).trans ((lk_past (by decide +kernel)).trans ((lk_past (by decide +kernel)).trans lk_here))
theorem fC_none {k : Str} (h1 : (k == ("number" : Str)) = false) (h2 : (k == ("hunks" : Str)) = false) (h3 : (k == ("deleted" : Str)) = false) (h4 : (k == ("lines" : Str)) = false) : List.lookup k (fC x y z u) = none :=
  (lk_past h1).trans ((lk_past h2).trans ((lk_past h3).trans ((lk_past h4).trans rfl)))
theorem fC_chains : List.lookup ("chains" : Str) (fC x y z u) = none := fC_none (by decide +kernel) (by decide +kernel) (by decide +kernel) (by decide +kernel)
theorem fC_dependencies : List.lookup ("dependencies" : Str) (fC x y z u) = none := fC_none (by decide +kernel) (by decide +kernel) (by decide +kernel) (by decide +kernel)
abbrev fD (x y : V) : List (Str × V) := [("deleted", x), ("inserted", y)]
theorem fD_deleted : List.lookup ("deleted" : Str) (fD x y) = some x := lk_here
theorem fD_inserted : List.lookup ("inserted" : Str) (fD x y) = some y := (lk_past (by decide +kernel)).trans lk_here
abbrev fO (x y : V) : List (Str × V) := [("reached", x), ("lines", y)]
theorem fO_reached : List.lookup ("reached" : Str) (fO x y) = some x := lk_here
theorem fO_lines : List.lookup ("lines" : Str) (fO x y) = some y := (lk_past (by decide +kernel)).trans lk_here
theorem fO_none {k : Str} (h1 : (k == ("reached" : Str)) = false) (h2 : (k == ("lines" : Str)) = false) : List.lookup k (fO x y) = none := (lk_past h1).trans ((lk_past h2).trans rfl)
theorem fO_precedes : List.lookup ("precedes" : Str) (fO x y) = none := fO_none (by decide +kernel) (by decide +kernel)
theorem fO_next_of : List.lookup ("next_of" : Str) (fO x y) = none := fO_none (by decide +kernel) (by decide +kernel)
theorem fO_conflicts : List.lookup ("conflicts" : Str) (fO x y) = none := fO_none (by decide +kernel) (by decide +kernel)
abbrev fS (x y : V) : List (Str × V) := [("made", x), ("branches", y)]
theorem fS_made : List.lookup ("made" : Str) (fS x y) = some x := lk_here
theorem fS_branches : List.lookup ("branches" : Str) (fS x y) = some y := (lk_past (by decide +kernel)).trans lk_here
theorem fS_none {k : Str} (h : ((k == ("made" : Str)) || (k == ("branches" : Str))) = false) : List.lookup k (fS x y) = none := by
  obtain ⟨h1, h2⟩ := Bool.or_eq_false_iff.mp h
  exact (lk_past h1).trans ((lk_past h2).trans rfl)
end
theorem put_here {f : Str} {v x : V} {r : List (Str × V)} : putF f v ((f, x) :: r) = (f, v) :: r := if_pos rfl
theorem put_past {f g : Str} {v x : V} {r : List (Str × V)} (h : ¬ g = f) : putF f v ((g, x) :: r) = (g, x) :: putF f v r := if_neg h

/-! ### reading pieces that change nothing -/
def Vl (te : TE) (σ : L2.St) (H : Hp) (v : V) : Prop := ∀ Q : VK, Q v H → te σ H Q
section
variable {K : PySem.W.Frag} {P : Program} {w : World} {σ : L2.St} {H : Hp} {i : Nat} {v x y z : V} {ta tb te : TE} {a C dx p : Addr} {fs : List (Str × V)} {f : Str} {n m : Int} {xs : List V}
theorem vl_var (h : σ[i]? = some (some v)) : Vl (tVar i) σ H v := fun _ q => ⟨v, h, q⟩
theorem vl_c : Vl (tC v) σ H v := fun _ q => q
theorem vl_fld (h : Vl ta σ H (.ref a)) (ho : H a = some (.ins C dx fs)) (hc : Cls K C) (hn : NoAttr K C f) (hl : fs.lookup f = some v) : Vl (tFld K ta f) σ H v := fun Q q => h _ ⟨a, C, dx, fs, v, rfl, ho, hc, hn, hl, q⟩
theorem vl_ixL {j : Nat} (ha : Vl ta σ H (.ref p)) (hb : Vl tb σ H (.int (j : Int))) (hs : SqL K H p xs) (e : xs[j]? = some v) : Vl (tOp (rIxL K) ta tb) σ H v := fun Q q => ha _ (hb _ ⟨p, xs, (j : Int), v, rfl, rfl, hs, atI_nat e, q⟩)
theorem vl_ixT {j : Nat} (ha : Vl ta σ H (.ref p)) (hb : Vl tb σ H (.int (j : Int))) (hs : SqT K H p xs) (e : xs[j]? = some v) : Vl (tOp (rIxT K) ta tb) σ H v := fun Q q => ha _ (hb _ ⟨p, xs, (j : Int), v, rfl, rfl, hs, atI_nat e, q⟩)
theorem vl_add (ha : Vl ta σ H (.int n)) (hb : Vl tb σ H (.int m)) : Vl (tOp rAddI ta tb) σ H (.int (n + m)) := fun Q q => ha _ (hb _ ⟨n, m, rfl, rfl, q⟩)
theorem vl_sub (ha : Vl ta σ H (.int n)) (hb : Vl tb σ H (.int m)) : Vl (tOp rSubI ta tb) σ H (.int (n - m)) := fun Q q => ha _ (hb _ ⟨n, m, rfl, rfl, q⟩)
theorem vl_lt (ha : Vl ta σ H (.int n)) (hb : Vl tb σ H (.int m)) : Vl (tOp rLtI ta tb) σ H (.bl (decide (n < m))) := fun Q q => ha _ (hb _ ⟨n, m, rfl, rfl, q⟩)
theorem vl_le (ha : Vl ta σ H (.int n)) (hb : Vl tb σ H (.int m)) : Vl (tOp rLeI ta tb) σ H (.bl (decide (n ≤ m))) := fun Q q => ha _ (hb _ ⟨n, m, rfl, rfl, q⟩)
theorem vl_gt (ha : Vl ta σ H (.int n)) (hb : Vl tb σ H (.int m)) : Vl (tOp rGtI ta tb) σ H (.bl (decide (m < n))) := fun Q q => ha _ (hb _ ⟨n, m, rfl, rfl, q⟩)
theorem vl_ge (ha : Vl ta σ H (.int n)) (hb : Vl tb σ H (.int m)) : Vl (tOp rGeI ta tb) σ H (.bl (decide (m ≤ n))) := fun Q q => ha _ (hb _ ⟨n, m, rfl, rfl, q⟩)
theorem vl_eqI (ha : Vl ta σ H (.int n)) (hb : Vl tb σ H (.int m)) : Vl (tOp rEq ta tb) σ H (.bl (decide (n = m))) := fun Q q => ha _ (hb _ ⟨rfl, by
  have e : decide (V.int n = V.int m) = decide (n = m) := by
    by_cases h : n = m
    · simp [h]
    · simp [h]
  rw [e]
  exact q⟩)
theorem vl_neI (ha : Vl ta σ H (.int n)) (hb : Vl tb σ H (.int m)) : Vl (tOp rNe ta tb) σ H (.bl (!decide (n = m))) := fun Q q => ha _ (hb _ ⟨rfl, by
  have e : decide (V.int n = V.int m) = decide (n = m) := by
    by_cases h : n = m
    · simp [h]
    · simp [h]
  rw [e]
  exact q⟩)
theorem vl_neg (ha : Vl ta σ H (.int n)) : Vl (tNeg ta) σ H (.int (-n)) := fun Q q => ha _ ⟨n, rfl, q⟩
theorem vl_lenL (ha : Vl ta σ H (.ref p)) (hs : SqL K H p xs) : Vl (tCB (rLen K) (tCons ta tNil)) σ H (.int (xs.length : Nat)) := fun Q q => ha _ ⟨p, xs, rfl, .inl hs, q⟩
theorem vl_lenT (ha : Vl ta σ H (.ref p)) (hs : SqT K H p xs) : Vl (tCB (rLen K) (tCons ta tNil)) σ H (.int (xs.length : Nat)) := fun Q q => ha _ ⟨p, xs, rfl, .inr hs, q⟩
theorem vl_max (ha : Vl ta σ H (.int n)) (hb : Vl tb σ H (.int m)) : Vl (tCB rMaxI (tCons ta (tCons tb tNil))) σ H (.int (if m > n then m else n)) := fun Q q => ha _ (hb _ ⟨n, m, rfl, q⟩)
theorem Vl.to {v' : V} (h : Vl te σ H v) (e : v = v') : Vl te σ H v' := e ▸ h
/-- flat ints in a list -/
theorem inV_int {n : Int} : ∀ {ns : List Int}, inV (.int n) (ns.map V.int) = decide (n ∈ ns)
  | [] => rfl
  | k :: ns => by
    show (eqV (.int k) (.int n) || inV (.int n) (ns.map V.int)) = _
    rw [inV_int (ns := ns)]
    have e : eqV (.int k) (.int n) = decide (k = n) := by
      show (k == n) = _
      by_cases h : k = n
      · simp [h]
      · simp [h]
    rw [e]
    by_cases h : k = n
    · simp [h]
    · have h' : ¬ n = k := fun q => h q.symm
      simp [h, h']
theorem flat_ints : ∀ (ns : List Int), (ns.map V.int).all flatV = true
  | [] => rfl
  | k :: ns => by
    rw [List.map_cons, List.all_cons, flat_ints ns]
    rfl
theorem vl_in {ns : List Int} (ha : Vl ta σ H (.int n)) (hb : Vl tb σ H (.ref p)) (hs : SqL K H p (ns.map V.int) ∨ SqT K H p (ns.map V.int)) : Vl (tOp (rIn K false) ta tb) σ H (.bl (decide (n ∈ ns))) := fun Q q => ha _ (hb _ ⟨p, _, rfl, hs, rfl, flat_ints ns, by
  rw [if_neg Bool.false_ne_true, inV_int]
  exact q⟩)
theorem vl_notin {ns : List Int} (ha : Vl ta σ H (.int n)) (hb : Vl tb σ H (.ref p)) (hs : SqL K H p (ns.map V.int) ∨ SqT K H p (ns.map V.int)) : Vl (tOp (rIn K true) ta tb) σ H (.bl (!decide (n ∈ ns))) := fun Q q => ha _ (hb _ ⟨p, _, rfl, hs, rfl, flat_ints ns, by
  rw [if_pos rfl, inV_int]
  exact q⟩)

/-! ### arguments, displays -/
def Al (ta : TA) (σ : L2.St) (H : Hp) (vs : List V) : Prop := ∀ Q : List V → Hp → Prop, Q vs H → ta σ H Q
theorem al_nil : Al tNil σ H [] := fun _ q => q
theorem al_cons {tr : TA} {vs : List V} (h : Vl te σ H v) (hr : Al tr σ H vs) : Al (tCons te tr) σ H (v :: vs) := fun Q q => h _ (hr _ q)
theorem s_tup {ar : TA} {vs : List V} {Q : VK} (h : Al ar σ H vs) (hl : vs.length ≤ 1000) (k : ∀ p, H p = none → Q (.ref p) (upd H p (.tup vs))) : tTup ar σ H Q := h _ ⟨szl (by omega), k⟩
theorem s_lst {ar : TA} {vs : List V} {Q : VK} (h : Al ar σ H vs) (hl : vs.length ≤ 1000) (k : ∀ p, H p = none → Q (.ref p) (upd H p (.lst vs))) : tLst ar σ H Q := h _ ⟨szl (by omega), k⟩
theorem s_op {r : R2} {Q : VK} (h : ta σ H fun x H1 => tb σ H1 fun y H2 => r x y H2 Q) : tOp r ta tb σ H Q := h
theorem s_cons {tr : TA} {Q : List V → Hp → Prop} (h : te σ H fun x H1 => tr σ H1 fun xs H2 => Q (x :: xs) H2) : tCons te tr σ H Q := h
theorem s_cb {r : List V → Hp → VK → Prop} {ar : TA} {Q : VK} (h : ar σ H fun vs H1 => r vs H1 Q) : tCB r ar σ H Q := h
theorem s_call {sp : Sp} {E : XK} {ar : TA} {vs : List V} {Q : VK} (h : Al ar σ H vs) (k : sp (vs ++ []) H Q E) : tCall sp [] E ar σ H Q := h _ k
theorem s_meth {sp : Sp} {E : XK} {ar : TA} {vs : List V} {Q : VK} {m : Str} (ho : Vl ta σ H (.ref a)) (hi : H a = some (.ins C dx fs)) (hl : fs.lookup m = none) (h : Al ar σ H vs) (k : sp (.ref a :: (vs ++ [])) H Q E) : tMeth C m sp [] E ta ar σ H Q :=
  ho _ ⟨a, dx, fs, rfl, hi, hl, h _ k⟩
theorem s_make {sp : Sp} {E : XK} {ar : TA} {vs : List V} {Q : VK} (h : Al ar σ H vs) (k : ∀ x dx, H x = none → H dx = none → dx ≠ x → sp (.ref x :: (vs ++ [])) (upd (upd H dx (.own x)) x (.ins C dx [])) (fun v H2 => v = .non ∧ Q (.ref x) H2) E) : tMake C sp [] E ar σ H Q := h _ k
theorem s_sl {r : V → Option Int → Option Int → Hp → VK → Prop} {tl th : TO} {Q : VK} (h : te σ H fun x H1 => tl σ H1 fun l H2 => th σ H2 fun u H3 => r x l u H3 Q) : tSl r te tl th σ H Q := h
/-- a slice of a list that stands -/
theorem s_cut {lo hi : Option Int} {tl th : TO} {Q : VK} (ho : Vl te σ H (.ref p)) (h1 : ∀ Q : Option Int → Hp → Prop, Q lo H → tl σ H Q) (h2 : ∀ Q : Option Int → Hp → Prop, Q hi H → th σ H Q) (hs : SqL K H p xs) (k : ∀ q, H q = none → Q (.ref q) (upd H q (.lst (cutV xs lo hi)))) :
    tSl (rSlL K) te tl th σ H Q := ho _ (h1 _ (h2 _ ⟨p, xs, rfl, hs, k⟩))
theorem po_vl (h : Vl te σ H (.int n)) : ∀ Q : Option Int → Hp → Prop, Q (some n) H → tPart te σ H Q := fun Q q => h _ ⟨n, rfl, q⟩
theorem po_no : ∀ Q : Option Int → Hp → Prop, Q none H → tNoPart σ H Q := fun _ q => q
/-- xs + ys -/
theorem s_cat {p2 : Addr} {ys : List V} {Q : VK} (h1 : Vl ta σ H (.ref p)) (h2 : Vl tb σ H (.ref p2)) (hp : H p = some (.lst xs)) (hp2 : H p2 = some (.lst ys)) (hl : xs.length + ys.length ≤ 16000000) (k : ∀ q, H q = none → Q (.ref q) (upd H q (.lst (xs ++ ys)))) : tOp rCat ta tb σ H Q :=
  h1 _ (h2 _ ⟨p, p2, xs, ys, rfl, rfl, hp, hp2, szl hl, k⟩)

/-! ### tests, statements -/
def Tl (t : TT) (σ : L2.St) (H : Hp) (b : Bool) : Prop := ∀ Q : Bool → Hp → Prop, Q b H → t σ H Q
variable {b c : Bool} {t u : TT} {D : Ends} {t1 t2 : TS} {g : TG}
theorem tl_test (h : Vl te σ H (.bl b)) : Tl (tTest te) σ H b := fun _ q => h _ ⟨b, rfl, q⟩
theorem tl_B (h : Vl te σ H (.bl b)) : Tl (tB te) σ H b := fun _ q => h _ ⟨b, rfl, q⟩
theorem tl_not (h : Tl t σ H b) : Tl (tNot t) σ H (!b) := fun Q q => h _ q
theorem tl_and (h1 : Tl t σ H b) (h2 : b = true → Tl u σ H c) : Tl (tAnd t u) σ H (b && c) := fun Q q => h1 _ (by
  cases b with
  | true => exact h2 rfl Q q
  | false => exact q)
theorem tl_or (h1 : Tl t σ H b) (h2 : b = false → Tl u σ H c) : Tl (tOr t u) σ H (b || c) := fun Q q => h1 _ (by
  cases b with
  | true => exact q
  | false => exact h2 rfl Q q)
theorem Tl.to {b' : Bool} (h : Tl t σ H b) (e : b = b') : Tl t σ H b' := e ▸ h
theorem vl_andV {ta tb : TE} (h1 : Vl ta σ H (.bl b)) (h2 : b = true → Vl tb σ H (.bl c)) : Vl (tAndV ta tb) σ H (.bl (b && c)) := fun Q q => h1 _ ⟨b, rfl, by
  cases b with
  | true => exact h2 rfl Q q
  | false => exact q⟩
theorem s_if (h : Tl t σ H b) (h1 : b = true → t1 D σ H) (h2 : b = false → t2 D σ H) : tIfS t t1 t2 D σ H := h _ (by
  cases b with
  | true => exact h1 rfl
  | false => exact h2 rfl)
theorem s_ifE (h : Tl t σ H b) {Q : VK} (h1 : b = true → ta σ H Q) (h2 : b = false → tb σ H Q) : tIf t ta tb σ H Q := h _ (by
  cases b with
  | true => exact h1 rfl
  | false => exact h2 rfl)
theorem s_seq (h : t1 { D with nx := t2 D } σ H) : tSeq t1 t2 D σ H := h
theorem s_asgN (h : te σ H fun x H1 => D.nx (σ.set i (some x)) H1) : tAsg te (gName i) D σ H := h
theorem s_retN (h : te σ H D.rt) : tRet te D σ H := h
theorem s_dropN (h : te σ H fun _ H1 => D.nx σ H1) : tDrop te D σ H := h
theorem s_set (h : Vl te σ H v) (q : D.nx (σ.set i (some v)) H) : tAsg te (gName i) D σ H := h _ q
theorem s_ret (h : Vl te σ H v) (q : D.rt v H) : tRet te D σ H := h _ q
theorem s_aug {f : Int → Int → Int} (hx : σ[i]? = some (some (.int n))) (h : Vl te σ H (.int m)) (q : D.nx (σ.set i (some (.int (f n m)))) H) : tAug i te (ipI f) D σ H := ⟨.int n, hx, h _ ⟨n, m, rfl, rfl, q⟩⟩
/-- xs.append(e), e known -/
theorem s_app (ha : Vl ta σ H (.ref p)) (hl : H p = some (.lst xs)) (h : Vl te σ H v) (hz : xs.length < 16000000) (q : D.nx σ (upd H p (.lst (xs ++ [v])))) : tDrop (tBM K "list" rAppend ta (tCons te tNil)) D σ H :=
  ha _ ⟨.inl ⟨rfl, xs, SqL.of hl⟩, h _ ⟨p, xs, v, rfl, rfl, hl, szlt hz, q⟩⟩
/-- a for over a list that stands -/
theorem s_forL {a : Addr} (h : Vl ta σ H (.ref a)) (hx : SqL K H a xs) (Pv : Nat → L2.St → Hp → Prop) (h0 : Pv 0 σ H) (hl : ∀ i σ' H', i ≤ xs.length → Pv i σ' H' → SqL K H' a xs)
    (hs : ∀ i x σ' H', xs[i]? = some x → Pv i σ' H' → g x σ' H' fun σ2 H2 => t1 { D with nx := Pv (i + 1), ct := Pv (i + 1), bk := D.nx } σ2 H2) (hd : ∀ σ' H', Pv xs.length σ' H' → D.nx σ' H') : tFor (iList K ta) g t1 D σ H :=
  h _ ⟨a, rfl, ⟨xs, hx⟩, for_list Pv h0 hl hs hd⟩
/-- a while, by a number that falls -/
theorem s_while (W : Nat → L2.St → Hp → Prop) (m0 : Nat) (h0 : W m0 σ H)
    (hs : ∀ m σ' H', W m σ' H' → ∃ b, Tl t σ' H' b ∧ (b = true → ∃ N : L2.St → Hp → Prop, (∀ σ2 H2, N σ2 H2 → ∃ m', m' < m ∧ W m' σ2 H2) ∧ t1 { D with nx := N, ct := N, bk := D.nx } σ' H') ∧ (b = false → D.nx σ' H')) : tWhile t t1 D σ H :=
  ⟨W, ⟨m0, h0⟩, fun m σ' H' hw => by
    obtain ⟨b, hb, h1, h2⟩ := hs m σ' H' hw
    refine hb _ ?_
    cases b with
    | true => exact h1 rfl
    | false => exact h2 rfl⟩
end

/-! ### the own error -/
/-- an error that tells xs is let out -/
def Raised (K : PySem.W.Frag) (B H : Hp) (E : XK) (xs : List Int) : Prop :=
  ∀ B' H' (p d : Addr), Ext B H B' H' → H' d = some (.xd [(("told" : Str), V.ref p)]) → B' p = some (.lst (xs.map V.int)) → E (.ref (gad K "Refused")) (some d) H'
theorem raise_step {K : PySem.W.Frag} {B H B1 H1 : Hp} {E : XK} {xs : List Int} {p : Addr} (r : Raised K B H E xs) (x : Ext B H B1 H1) (hp : B1 p = some (.lst (xs.map V.int))) :
    ∀ d, H1 d = none → E (.ref (gad K "Refused")) (some d) (upd H1 d (.xd [(("told" : Str), V.ref p)])) := fun d hd => r B1 _ p d (x.tmp hd) upd_same hp
theorem Raised.ext {K : PySem.W.Frag} {B H B1 H1 : Hp} {E : XK} {xs : List Int} (r : Raised K B H E xs) (x : Ext B H B1 H1) : Raised K B1 H1 E xs := fun B' H' p d y h1 h2 => r B' H' p d (x.trans y) h1 h2
theorem Ret.ext {B H B1 H1 : Hp} {Q : VK} {R : Hp → V → Prop} (r : Ret B H Q R) (x : Ext B H B1 H1) : Ret B1 H1 Q R := fun B' H' v y h => r B' H' v (x.trans y) h
abbrev IntsV : Rp (List Int) := fun B v ns => ∃ a, v = .ref a ∧ B a = some (.lst (ns.map V.int))
theorem mono_ints : Mono IntsV := fun _ _ _ _ s ⟨a, e, h⟩ => ⟨a, e, s _ _ h⟩
/-- rising numbers as ints -/
abbrev toI (l : List Nat) : List Int := l.map fun (n : Nat) => (n : Int)
theorem toI_mem {n : Nat} {l : List Nat} : (n : Int) ∈ toI l ↔ n ∈ l := by
  unfold toI
  rw [List.mem_map]
  constructor
  · rintro ⟨m, h, e⟩
    rw [show n = m by omega]
    exact h
  · intro h
    exact ⟨n, h, rfl⟩
theorem toI_len (l : List Nat) : (toI l).length = l.length := List.length_map ..

/-! ### targets -/
section
variable {K : PySem.W.Frag} {σ : L2.St} {H : Hp} {v x y z : V} {a : Addr} {i j k : Nat} {Q : L2.St → Hp → Prop}
theorem g_two (h : SqT K H a [x, y]) (q : Q ((σ.set i (some x)).set j (some y)) H) : gTup K 2 (gCons (gName i) (gCons (gName j) gNil)) (.ref a) σ H Q :=
  ⟨a, [x, y], rfl, h, rfl, x, [y], rfl, y, [], rfl, rfl, q⟩
theorem g_three (h : SqT K H a [x, y, z]) (q : Q (((σ.set i (some x)).set j (some y)).set k (some z)) H) : gTup K 3 (gCons (gName i) (gCons (gName j) (gCons (gName k) gNil))) (.ref a) σ H Q :=
  ⟨a, [x, y, z], rfl, h, rfl, x, [y, z], rfl, y, [z], rfl, z, [], rfl, rfl, q⟩
end
/-! ### the session -/
/-- the session at a: its changes in the list at m, its branches in the list at b; m and b may change, what they hold stands -/
structure SA (K : PySem.W.Frag) (B H : Hp) (a m b : Addr) (s : State) : Prop where
  ins : ∃ dx, H a = some (.ins (gad K "Session") dx (fS (.ref m) (.ref b)))
  mb : m ≠ b
  Bm : B m = none
  Bb : B b = none
  made : ∃ vs, H m = some (.lst vs) ∧ vs.length = s.changes.length ∧ ∀ i v c, vs[i]? = some v → s.changes[i]? = some c → ChangeV K B v (i, c)
  brs : ∃ ws, H b = some (.lst ws) ∧ All2 (IntsV B) ws (s.branches.map toI)
theorem SA.ext {K : PySem.W.Frag} {B H B' H' : Hp} {a m b : Addr} {s : State} (x : SA K B H a m b s) (e : Ext B H B' H') : SA K B' H' a m b s := by
  obtain ⟨⟨dx, h1⟩, h2, h3, h4, ⟨vs, h5, h6, h7⟩, ⟨ws, h8, h9⟩⟩ := x
  exact ⟨⟨dx, e.h _ _ h1⟩, h2, e.f _ _ h5 h3, e.f _ _ h8 h4, ⟨vs, e.h _ _ h5, h6, fun i v c q1 q2 => mono_change _ _ _ _ e.b (h7 i v c q1 q2)⟩, ⟨ws, e.h _ _ h8, h9.mono fun v l q => mono_ints _ _ _ _ e.b q⟩⟩
/-- as Ext, but for the two lists -/
structure ExtS (mm bb : Addr) (B H B' H' : Hp) : Prop where
  b : Same B B'
  h : ∀ a o, H a = some o → a ≠ mm → a ≠ bb → H' a = some o
  s : Same B' H'
  f : ∀ a o, H a = some o → B a = none → B' a = none
section
variable {mm bb : Addr} {B H B1 H1 B2 H2 : Hp} {p D : Addr} {o : HO}
theorem ExtS.refl (s : Same B H) : ExtS mm bb B H B H := ⟨Same.refl B, fun _ _ e _ _ => e, s, fun _ _ _ h => h⟩
theorem ExtS.trans (x : ExtS mm bb B H B1 H1) (y : ExtS mm bb B1 H1 B2 H2) (hm : H mm ≠ none → H1 mm ≠ none) (hb : H bb ≠ none → H1 bb ≠ none) : ExtS mm bb B H B2 H2 := by
  refine ⟨x.b.trans y.b, fun a o e n1 n2 => y.h a o (x.h a o e n1 n2) n1 n2, y.s, fun a o e n => ?_⟩
  have n1 := x.f a o e n
  by_cases c : a = mm
  · cases q : H1 a with
    | some v => exact y.f a v q n1
    | none =>
      subst c
      exact absurd q (hm (by rw [e]; exact fun z => nomatch z))
  · by_cases c2 : a = bb
    · cases q : H1 a with
      | some v => exact y.f a v q n1
      | none =>
        subst c2
        exact absurd q (hb (by rw [e]; exact fun z => nomatch z))
    · exact y.f a o (x.h a o e c c2) n1
theorem ExtS.ext (x : ExtS mm bb B H B1 H1) (y : Ext B1 H1 B2 H2) (hm : H mm ≠ none → H1 mm ≠ none) (hb : H bb ≠ none → H1 bb ≠ none) : ExtS mm bb B H B2 H2 :=
  x.trans ⟨y.b, fun a o e _ _ => y.h a o e, y.s, y.f⟩ hm hb
theorem ExtS.new (x : ExtS mm bb B H B1 H1) (h : H1 p = none) (hm : H1 mm ≠ none) (hb : H1 bb ≠ none) : ExtS mm bb B H (upd B1 p o) (upd H1 p o) := by
  have hB : B1 p = none := x.s.free h
  have pm : p ≠ mm := fun z => hm (z ▸ h)
  have pb : p ≠ bb := fun z => hb (z ▸ h)
  refine ⟨x.b.trans (Same.new hB), fun a v e n1 n2 => Same.new h a v (x.h a v e n1 n2), fun a v e => ?_, fun a v e n => ?_⟩
  · by_cases c : a = p
    · subst c
      rw [upd_same] at e ⊢
      exact e
    · rw [upd_ne c] at e ⊢
      exact x.s a v e
  · have ne : a ≠ p := by
      intro z
      subst z
      have := x.h a v e pm pb
      rw [h] at this
      cases this
    rw [upd_ne ne]
    exact x.f a v e n
theorem ExtS.tmp (x : ExtS mm bb B H B1 H1) (h : H1 p = none) : ExtS mm bb B H B1 (upd H1 p o) :=
  ⟨x.b, fun a v e n1 n2 => Same.new h a v (x.h a v e n1 n2), x.s.trans (Same.new h), x.f⟩
theorem ExtS.put (x : ExtS mm bb B H B1 H1) (h : D = mm ∨ D = bb) (hb : B1 D = none) : ExtS mm bb B H B1 (upd H1 D o) := by
  refine ⟨x.b, fun a v e n1 n2 => ?_, fun a v e => ?_, x.f⟩
  · rw [upd_ne (fun z => by rcases h with q | q; exact n1 (z.trans q); exact n2 (z.trans q))]
    exact x.h a v e n1 n2
  · rw [upd_ne (ne_of_none e hb)]
    exact x.s a v e
/-- a thing of ours changes -/
theorem ExtS.mut (x : ExtS mm bb B H B1 H1) (h : H D = none) (hb : B1 D = none) : ExtS mm bb B H B1 (upd H1 D o) := by
  refine ⟨x.b, fun a v e n1 n2 => ?_, fun a v e => ?_, x.f⟩
  · rw [upd_ne (ne_of_none e h)]
    exact x.h a v e n1 n2
  · rw [upd_ne (ne_of_none e hb)]
    exact x.s a v e
end
/-- a new instance, behind its __init__, stands from now on -/
theorem made_ext {B H1 B' H' : Hp} {x dx C : Addr} {o : HO} (h1 : H1 x = none) (h2 : H1 dx = none) (ne : dx ≠ x) (s : Same B H1) (e : ExtS x x B (upd (upd H1 dx (.own x)) x (.ins C dx [])) B' H') (ho : H' x = some o) : Ext B H1 (upd B' x o) H' := by
  have bx : B' x = none := e.f x _ upd_same (s.free h1)
  have old : ∀ a v, H1 a = some v → (upd (upd H1 dx (.own x)) x (.ins C dx [])) a = some v := fun a v q => by
    rw [upd_ne (ne_of_none q h1), upd_ne (ne_of_none q h2)]
    exact q
  refine ⟨e.b.trans (Same.new bx), fun a v q => e.h a v (old a v q) (ne_of_none q h1) (ne_of_none q h1), fun a v q => ?_, fun a v q n => ?_⟩
  · by_cases c : a = x
    · subst c
      rw [upd_same] at q
      rw [← q]
      exact ho
    · rw [upd_ne c] at q
      exact e.s a v q
  · rw [upd_ne (ne_of_none q h1)]
    exact e.f a v (old a v q) n
/-- the heap of a new instance extends what stands -/
theorem made_same {B H1 : Hp} {x dx C : Addr} (h1 : H1 x = none) (h2 : H1 dx = none) (s : Same B H1) : Same B (upd (upd H1 dx (.own x)) x (.ins C dx [])) := fun a v q => by
  have q2 := s a v q
  rw [upd_ne (ne_of_none q2 h1), upd_ne (ne_of_none q2 h2)]
  exact q2
theorem Ext.toS {m b : Addr} {B H B' H' : Hp} (x : Ext B H B' H') : ExtS m b B H B' H' := ⟨x.b, fun a o e _ _ => x.h a o e, x.s, x.f⟩
/-- what a method of the session hands back: behind it the session is s', and what R tells -/
def RetS (K : PySem.W.Frag) (B H : Hp) (a m b : Addr) (s' : State) (Q : VK) (R : Hp → V → Prop) : Prop := ∀ B' H' v, ExtS m b B H B' H' → SA K B' H' a m b s' → R B' v → Q v H'
end Lg

-- ==== LgLoop ====
set_option Elab.async false
set_option linter.all false
set_option maxRecDepth 100000
set_option maxHeartbeats 4000000
/-! LgLoop: comprehensions over what stands. -/
namespace Lg
open PySem PySem.Spec PyProof.Rows L2
section
variable {K : PySem.W.Frag} {B H : Hp} {σ : L2.St} {a : Addr} {xs : List V} {te tl : TE} {tt : TT} {vs : List Nat} {j : Nat} {β : Type} {R : Rp β} {ys : Nat → Option β} {Q : VK}
/-- what the new list holds behind i turns -/
def LcW (B H : Hp) (R : Rp β) (ys : Nat → Option β) (D : Addr) (i : Nat) (H' : Hp) : Prop :=
  ∃ B1 vs, Ext B H B1 H' ∧ B1 D = none ∧ H' D = some (.lst vs) ∧ All2 (R B1) vs ((List.range i).filterMap ys)
theorem lcw_len {n : Nat} : ((List.range n).filterMap ys).length ≤ n := by
  have := List.length_filterMap_le ys (List.range n)
  rw [List.length_range] at this
  exact this
theorem lcw_start {D : Addr} (s : Same B H) (hD : H D = none) : LcW B H R ys D 0 (upd H D (.lst [])) :=
  ⟨B, [], (Ext.refl s).tmp hD, s.free hD, upd_same, All2.nil⟩
theorem lcw_turn {D : Addr} {i : Nat} {H1 : Hp} {σ2 : L2.St} (mono : Mono R) (hD : H D = none) (hi : i < 1000000) (p : LcW B H R ys D i H1)
    (h : ∀ B1, Ext B H B1 H1 → ∃ b, Tl tt σ2 H1 b ∧ (b = true → ∀ Q : VK, Ret B1 H1 Q (fun B' v => ∃ y, R B' v y ∧ ys i = some y) → te σ2 H1 Q) ∧ (b = false → ys i = none)) :
    tt σ2 H1 fun b H3 => if b = true then te σ2 H3 fun y H4 => ∃ acc, H4 D = some (.lst acc) ∧ acc.length < sizeLine ∧ LcW B H R ys D (i + 1) (upd H4 D (.lst (acc ++ [y]))) else LcW B H R ys D (i + 1) H3 := by
  obtain ⟨B1, acc, x, bD, hDl, al⟩ := p
  obtain ⟨b, hb, h1, h2⟩ := h B1 x
  refine hb _ ?_
  cases b with
  | true =>
    refine iteT (h1 rfl _ fun B4 H4 v e ⟨y, r, ey⟩ => ?_)
    have hl : acc.length ≤ i := by
      rw [al.1]
      exact lcw_len
    refine ⟨acc, e.h _ _ hDl, szlt (by omega), B4, acc ++ [v], (x.trans e).mut hD (e.f D _ hDl bD), e.f D _ hDl bD, upd_same, ?_⟩
    rw [List.range_succ, List.filterMap_append]
    have e2 : [i].filterMap ys = [y] := by simp [ey]
    rw [e2]
    exact (al.mono fun a b r => mono _ _ _ _ e.b r).snoc r
  | false =>
    refine iteF ⟨B1, acc, x, bD, hDl, ?_⟩
    rw [List.range_succ, List.filterMap_append]
    have e2 : [i].filterMap ys = [] := by simp [h2 rfl]
    rw [e2, List.append_nil]
    exact al
theorem lcw_end {D : Addr} {n : Nat} {H1 : Hp} (hD : H D = none) (p : LcW B H R ys D n H1) (mono : Mono R) (k : Ret B H Q fun B' v => LstV R B' v ((List.range n).filterMap ys)) : Q (.ref D) H1 := by
  obtain ⟨B1, acc, x, bD, hDl, al⟩ := p
  exact k _ _ _ (x.keep hD bD hDl) ⟨D, acc, rfl, upd_same, al.mono fun a b r => mono _ _ _ _ (Same.new bD) r⟩
/-- [te for x in l if tt] over a list that stands, the target a name -/
theorem s_lcL (s : Same B H) (mono : Mono R) (h : Vl tl σ H (.ref a)) (hx : SqL K H a xs) (hz : xs.length ≤ 1000000) (hw : ∀ x, wipe ((wipe σ vs).set j (some x)) vs = wipe σ vs)
    (hs : ∀ i x B1 H1, xs[i]? = some x → Ext B H B1 H1 → ∃ b, Tl tt ((wipe σ vs).set j (some x)) H1 b ∧ (b = true → ∀ Q : VK, Ret B1 H1 Q (fun B' v => ∃ y, R B' v y ∧ ys i = some y) → te ((wipe σ vs).set j (some x)) H1 Q) ∧ (b = false → ys i = none))
    (k : Ret B H Q fun B' v => LstV R B' v ((List.range xs.length).filterMap ys)) : tLc (iList K tl) (gName j) tt te vs σ H Q :=
  h _ ⟨a, rfl, ⟨xs, hx⟩, fun D hD => lc_list (xs := xs) (LcW B H R ys D) (lcw_start s hD)
    (fun i H' _ p => by
      obtain ⟨B1, acc, x, _⟩ := p
      exact Same.seq x.h hx)
    (fun i x H' hi p => ⟨hw x, lcw_turn mono hD (by have := (List.getElem?_eq_some_iff.mp hi).1; omega) p fun B1 e => hs i x B1 H' hi e⟩)
    fun H' p => lcw_end hD p mono k⟩
/-- the target a pair of names -/
theorem s_lcL2 {i1 i2 : Nat} (f1 f2 : Nat → V) (s : Same B H) (mono : Mono R) (h : Vl tl σ H (.ref a)) (hx : SqL K H a xs) (hz : xs.length ≤ 1000000) (hw : ∀ x y, wipe (((wipe σ vs).set i1 (some x)).set i2 (some y)) vs = wipe σ vs)
    (hp : ∀ i x, xs[i]? = some x → ∃ t, x = .ref t ∧ SqT K H t [f1 i, f2 i])
    (hs : ∀ i B1 H1, i < xs.length → Ext B H B1 H1 → ∃ b, Tl tt (((wipe σ vs).set i1 (some (f1 i))).set i2 (some (f2 i))) H1 b ∧
      (b = true → ∀ Q : VK, Ret B1 H1 Q (fun B' v => ∃ y, R B' v y ∧ ys i = some y) → te (((wipe σ vs).set i1 (some (f1 i))).set i2 (some (f2 i))) H1 Q) ∧ (b = false → ys i = none))
    (k : Ret B H Q fun B' v => LstV R B' v ((List.range xs.length).filterMap ys)) : tLc (iList K tl) (gTup K 2 (gCons (gName i1) (gCons (gName i2) gNil))) tt te vs σ H Q :=
  h _ ⟨a, rfl, ⟨xs, hx⟩, fun D hD => lc_list (xs := xs) (LcW B H R ys D) (lcw_start s hD)
    (fun i H' _ p => by
      obtain ⟨B1, acc, x, _⟩ := p
      exact Same.seq x.h hx)
    (fun i x H' hi p => by
      have p' := p
      obtain ⟨B1, acc, e, _⟩ := p'
      obtain ⟨t, rfl, ht⟩ := hp i x hi
      have hil := (List.getElem?_eq_some_iff.mp hi).1
      exact g_two (sqT_mono e.h ht) ⟨hw _ _, lcw_turn mono hD (by omega) p fun B2 e2 => hs i B2 H' hil e2⟩)
    fun H' p => lcw_end hD p mono k⟩
/-- [te for x in range(n) if tt] -/
theorem s_lcR {ta : TA} {n : Nat} (s : Same B H) (mono : Mono R) (h : ∀ Q : List V → Hp → Prop, Q [.int (n : Int)] H → ta σ H Q) (hz : n ≤ 1000000) (hw : ∀ x, wipe ((wipe σ vs).set j (some x)) vs = wipe σ vs)
    (hs : ∀ (i : Nat) B1 H1, i < n → Ext B H B1 H1 → ∃ b, Tl tt ((wipe σ vs).set j (some (.int (i : Int)))) H1 b ∧ (b = true → ∀ Q : VK, Ret B1 H1 Q (fun B' v => ∃ y, R B' v y ∧ ys i = some y) → te ((wipe σ vs).set j (some (.int (i : Int)))) H1 Q) ∧ (b = false → ys i = none))
    (k : Ret B H Q fun B' v => LstV R B' v ((List.range n).filterMap ys)) : tLc (iRng1 ta) (gName j) tt te vs σ H Q :=
  h _ ⟨(n : Int), rfl, by omega, by omega, fun D hD => by
    have e1 : ((n : Int)).toNat = n := Int.toNat_natCast n
    rw [e1]
    refine lc_range (lo := 0) (n := n) (LcW B H R ys D) (lcw_start s hD) (fun i H' hi p => ?_) fun H' p => lcw_end hD p mono k
    have e0 : (0 : Int) + (i : Int) = (i : Int) := Int.zero_add _
    show wipe ((wipe σ vs).set j (some (.int ((0 : Int) + (i : Int))))) vs = wipe σ vs ∧ tt ((wipe σ vs).set j (some (.int ((0 : Int) + (i : Int))))) H' _
    rw [e0]
    exact ⟨hw _, lcw_turn mono hD (by omega) p fun B1 e => hs i B1 H' hi e⟩⟩
/-- a comprehension over a range, its turns by hand -/
theorem s_lcN {ta : TA} {n : Nat} (h : ∀ Q : List V → Hp → Prop, Q [.int (n : Int)] H → ta σ H Q) (hz : n ≤ 1000000) (Pv : Addr → Nat → Hp → Prop) (h0 : ∀ D, H D = none → Pv D 0 (upd H D (.lst []))) (hw : ∀ x, wipe ((wipe σ vs).set j (some x)) vs = wipe σ vs)
    (hs : ∀ D (i : Nat) H', H D = none → i < n → Pv D i H' → tt ((wipe σ vs).set j (some (.int (i : Int)))) H' fun b H3 => if b = true then te ((wipe σ vs).set j (some (.int (i : Int)))) H3 fun y H4 => ∃ acc, H4 D = some (.lst acc) ∧ acc.length < sizeLine ∧ Pv D (i + 1) (upd H4 D (.lst (acc ++ [y]))) else Pv D (i + 1) H3)
    (hd : ∀ D H', H D = none → Pv D n H' → Q (.ref D) H') : tLc (iRng1 ta) (gName j) tt te vs σ H Q :=
  h _ ⟨(n : Int), rfl, by omega, by omega, fun D hD => by
    have e1 : ((n : Int)).toNat = n := Int.toNat_natCast n
    rw [e1]
    refine lc_range (lo := 0) (n := n) (Pv D) (h0 D hD) (fun i H' hi p => ?_) fun H' p => hd D H' hD p
    have e0 : (0 : Int) + (i : Int) = (i : Int) := Int.zero_add _
    show wipe ((wipe σ vs).set j (some (.int ((0 : Int) + (i : Int))))) vs = wipe σ vs ∧ tt ((wipe σ vs).set j (some (.int ((0 : Int) + (i : Int))))) H' _
    rw [e0]
    exact ⟨hw _, hs D i H' hD hi p⟩⟩
/-- for over range(n) -/
theorem s_forR {ta : TA} {n : Nat} {g : TG} {tb : TS} {D : Ends} (h : ∀ Q : List V → Hp → Prop, Q [.int (n : Int)] H → ta σ H Q) (hz : n ≤ 1000000) (Pv : Nat → L2.St → Hp → Prop) (h0 : Pv 0 σ H)
    (hs : ∀ (i : Nat) σ H, i < n → Pv i σ H → g (.int (i : Int)) σ H fun σ2 H2 => tb { D with nx := Pv (i + 1), ct := Pv (i + 1), bk := D.nx } σ2 H2) (hd : ∀ σ H, Pv n σ H → D.nx σ H) : tFor (iRng1 ta) g tb D σ H :=
  h _ ⟨(n : Int), rfl, by omega, by omega, by
    have e1 : ((n : Int)).toNat = n := Int.toNat_natCast n
    rw [e1]
    refine ⟨fun i m σ H => m = n - i ∧ i ≤ n ∧ Pv i σ H, ⟨n, by simp, Nat.zero_le _, h0⟩, ?_⟩
    rintro i m σ H ⟨rfl, hi, p⟩
    by_cases hlt : i < n
    · refine .inr ⟨hlt, Pv (i + 1), fun σ' H' p' => ⟨n - (i + 1), by omega, rfl, hlt, p'⟩, fun x H' y => ?_⟩
      obtain ⟨e, y⟩ := y
      subst e y
      have e0 : (0 : Int) + (i : Int) = (i : Int) := Int.zero_add _
      rw [e0]
      exact hs i σ _ hlt p
    · have e : i = n := by omega
      subst e
      exact .inl ⟨Nat.le_refl _, hd σ H p⟩⟩
/-- for over enumerate(xs) of a list that stands: the pair at T is new -/
theorem s_forE {g : TG} {tb : TS} {D : Ends} (h : Vl tl σ H (.ref a)) (hx : SqL K H a xs) (Pv : Nat → L2.St → Hp → Prop) (h0 : Pv 0 σ H) (hl : ∀ i σ' H', i ≤ xs.length → Pv i σ' H' → SqL K H' a xs)
    (hs : ∀ i x σ' H' T, xs[i]? = some x → Pv i σ' H' → H' T = none → g (.ref T) σ' (upd H' T (.tup [.int (i : Int), x])) fun σ2 H2 => tb { D with nx := Pv (i + 1), ct := Pv (i + 1), bk := D.nx } σ2 H2) (hd : ∀ σ' H', Pv xs.length σ' H' → D.nx σ' H') : tFor (iEnum K (tCons tl tNil)) g tb D σ H :=
  h _ ⟨a, xs, rfl, hx, by
    refine ⟨fun i m σ H => m = xs.length - i ∧ i ≤ xs.length ∧ Pv i σ H, ⟨xs.length, by simp, Nat.zero_le _, h0⟩, ?_⟩
    rintro i m σ H ⟨rfl, hi, p⟩
    have q := hl i σ H hi p
    by_cases hlt : i < xs.length
    · refine .inr ⟨⟨xs, xs[i], q, by simp [hlt]⟩, Pv (i + 1), fun σ' H' p' => ⟨xs.length - (i + 1), by omega, rfl, hlt, p'⟩, fun x H' y => ?_⟩
      obtain ⟨T, y, rfl, hT, rfl, hy⟩ := y
      exact hs i y σ H T (hy xs q) p hT
    · have e : i = xs.length := by omega
      subst e
      exact .inl ⟨⟨xs, q, Nat.le_refl _⟩, hd σ H p⟩⟩
/-- for over zip(xs, ys), ys not the longer -/
theorem s_forZ {g : TG} {tb : TS} {D : Ends} {b : Addr} {ys : List V} {H1 : Hp} (hx : SqL K H1 a xs) (hy : SqL K H1 b ys) (hle : ys.length ≤ xs.length) (Pv : Nat → L2.St → Hp → Prop) (h0 : Pv 0 σ H1)
    (hl : ∀ i σ' H', i ≤ ys.length → Pv i σ' H' → SqL K H' a xs ∧ SqL K H' b ys)
    (hs : ∀ i x y σ' H' T, xs[i]? = some x → ys[i]? = some y → Pv i σ' H' → H' T = none → g (.ref T) σ' (upd H' T (.tup [x, y])) fun σ2 H2 => tb { D with nx := Pv (i + 1), ct := Pv (i + 1), bk := D.nx } σ2 H2)
    (hd : ∀ σ' H', Pv ys.length σ' H' → D.nx σ' H') :
    ∃ W : Nat → Nat → L2.St → Hp → Prop, (∃ m, W 0 m σ H1) ∧ ∀ i m σ H, W i m σ H → ((Itz K a b).stop i H ∧ D.nx σ H) ∨ ((Itz K a b).go i H ∧ ∃ N : L2.St → Hp → Prop, (∀ σ' H', N σ' H' → ∃ m', m' < m ∧ W (i + 1) m' σ' H') ∧ ∀ x H', (Itz K a b).yld i H x H' → g x σ H' fun σ2 H2 => tb { D with nx := N, ct := N, bk := D.nx } σ2 H2) := by
  refine ⟨fun i m σ H => m = ys.length - i ∧ i ≤ ys.length ∧ Pv i σ H, ⟨ys.length, by simp, Nat.zero_le _, h0⟩, ?_⟩
  rintro i m σ H ⟨rfl, hi, p⟩
  obtain ⟨qx, qy⟩ := hl i σ H hi p
  by_cases hlt : i < ys.length
  · have hlt2 : i < xs.length := by omega
    refine .inr ⟨⟨xs, ys, xs[i], ys[i], qx, qy, List.getElem?_eq_getElem hlt2, List.getElem?_eq_getElem hlt⟩, Pv (i + 1), fun σ' H' p' => ⟨ys.length - (i + 1), by omega, rfl, hlt, p'⟩, fun v H' y => ?_⟩
    obtain ⟨T, x, y, rfl, hT, rfl, h1, h2⟩ := y
    exact hs i x y σ H T (h1 xs qx) (h2 ys qy) p hT
  · have e : i = ys.length := by omega
    subst e
    exact .inl ⟨⟨xs, ys, qx, qy, .inr (Nat.le_refl _)⟩, hd σ H p⟩
theorem s_zip {g : TG} {tb : TS} {D : Ends} {ta : TA} (h : ta σ H fun vs H1 => ∃ a b xs ys, vs = [.ref a, .ref b] ∧ SqL K H1 a xs ∧ SqL K H1 b ys ∧ ∃ W : Nat → Nat → L2.St → Hp → Prop, (∃ m, W 0 m σ H1) ∧ ∀ i m σ H, W i m σ H → ((Itz K a b).stop i H ∧ D.nx σ H) ∨ ((Itz K a b).go i H ∧ ∃ N : L2.St → Hp → Prop, (∀ σ' H', N σ' H' → ∃ m', m' < m ∧ W (i + 1) m' σ' H') ∧ ∀ x H', (Itz K a b).yld i H x H' → g x σ H' fun σ2 H2 => tb { D with nx := N, ct := N, bk := D.nx } σ2 H2)) : tFor (iZip K ta) g tb D σ H := h
theorem tl_yes : Tl tYes σ H true := fun _ q => q
theorem filterMap_map {α : Type} (l : List α) (f : α → β) : (List.range l.length).filterMap (fun i => (l[i]?).map f) = l.map f := by
  apply List.ext_getElem?
  intro i
  have key : ∀ n, n ≤ l.length → (List.range n).filterMap (fun i => (l[i]?).map f) = (l.take n).map f := by
    intro n
    induction n with
    | zero => intro _; rfl
    | succ n ih =>
      intro hn
      have hlt : n < l.length := hn
      rw [List.range_succ, List.filterMap_append, ih (Nat.le_of_lt hlt), List.take_add_one, List.getElem?_eq_getElem hlt, List.map_append]
      simp [List.getElem?_eq_getElem hlt]
  rw [key _ (Nat.le_refl _), List.take_length]
theorem filterMap_filter {α : Type} (l : List α) (p : α → Bool) : (List.range l.length).filterMap (fun i => (l[i]?).bind fun x => if p x = true then some x else none) = l.filter p := by
  have key : ∀ n, n ≤ l.length → (List.range n).filterMap (fun i => (l[i]?).bind fun x => if p x = true then some x else none) = (l.take n).filter p := by
    intro n
    induction n with
    | zero => intro _; rfl
    | succ n ih =>
      intro hn
      have hlt : n < l.length := hn
      rw [List.range_succ, List.filterMap_append, ih (Nat.le_of_lt hlt), List.take_add_one, List.getElem?_eq_getElem hlt, List.filter_append]
      congr 1
      simp only [List.filterMap_cons, List.filterMap_nil, List.getElem?_eq_getElem hlt, Option.bind_some, Option.toList_some, List.filter_cons, List.filter_nil]
      by_cases c : p l[n] = true
      · rw [if_pos c, if_pos c]
      · rw [if_neg c, if_neg c]
  rw [key _ (Nat.le_refl _), List.take_length]
end
end Lg

-- ==== LgEq ====
set_option Elab.async false
set_option linter.all false
set_option maxRecDepth 100000
set_option maxHeartbeats 4000000
/-! LgEq: equality and membership of tuples of ints and lists of such. -/
namespace Lg
open PySem PySem.Spec PyProof.Rows L2
open Gf11 (Line Position Change Hunk State)
section
variable {K : PySem.W.Frag} {P : Program} {w : World} {B H : Hp} {σ : L2.St} {ta tb : TE} {v u : V} {p : Addr}
def tupD (ns : List Int) : PyData := .tuple (ns.map .int)
def rowD (l : List (List Int)) : PyData := .list (l.map tupD)
theorem intsD_lay : ∀ ns : List Int, PyData.canLayAll0 (ns.map .int) = true
  | [] => by simp [PyData.canLayAll0]
  | n :: ns => by simp [PyData.canLayAll0, PyData.canLay0, intsD_lay ns]
theorem intsD_depth : ∀ ns : List Int, PyData.depthAll (ns.map .int) ≤ 1
  | [] => by simp [PyData.depthAll]
  | n :: ns => by
    have := intsD_depth ns
    simp only [List.map_cons, PyData.depthAll, PyData.depth]
    omega
theorem tupD_shaped (ns : List Int) : SeqAt.shaped (tupD ns) = true := by
  have h := intsD_depth ns
  show ((tupD ns).canLay0 && decide ((tupD ns).depth ≤ 64)) = true
  rw [Bool.and_eq_true]
  refine ⟨by simp only [tupD, PyData.canLay0]; exact intsD_lay ns, decide_eq_true ?_⟩
  simp only [tupD, PyData.depth]
  omega
theorem rowD_lay : ∀ l : List (List Int), PyData.canLayAll0 (l.map tupD) = true
  | [] => by simp [PyData.canLayAll0]
  | x :: l => by
    have h : (tupD x).canLay0 = true := by
      simp only [tupD, PyData.canLay0]
      exact intsD_lay x
    simp [PyData.canLayAll0, h, rowD_lay l]
theorem rowD_depth : ∀ l : List (List Int), PyData.depthAll (l.map tupD) ≤ 3
  | [] => by simp [PyData.depthAll]
  | x :: l => by
    have h1 := rowD_depth l
    have h2 := intsD_depth x
    simp only [List.map_cons, PyData.depthAll, tupD, PyData.depth]
    omega
theorem rowD_shaped (l : List (List Int)) : SeqAt.shaped (rowD l) = true := by
  have h := rowD_depth l
  show ((rowD l).canLay0 && decide ((rowD l).depth ≤ 64)) = true
  rw [Bool.and_eq_true]
  refine ⟨by simp only [rowD, PyData.canLay0]; exact rowD_lay l, decide_eq_true ?_⟩
  simp only [rowD, PyData.depth]
  omega
theorem intsD_eqv : ∀ (a b : List Int), PyData.eqvAll (a.map .int) (b.map .int) = decide (a = b)
  | [], [] => by simp [PyData.eqvAll]
  | [], _ :: _ => by simp [PyData.eqvAll]
  | _ :: _, [] => by simp [PyData.eqvAll]
  | x :: a, y :: b => by
    have h := intsD_eqv a b
    simp only [List.map_cons, PyData.eqvAll, PyData.eqv, h]
    by_cases e : x = y
    · by_cases e2 : a = b
      · simp [e, e2]
      · simp [e, e2]
    · simp [e]
theorem tupD_eqv (a b : List Int) : PyData.eqv (tupD a) (tupD b) = decide (a = b) := by
  simp only [tupD, PyData.eqv]
  exact intsD_eqv a b
theorem rowAll_eqv : ∀ (a b : List (List Int)), PyData.eqvAll (a.map tupD) (b.map tupD) = decide (a = b)
  | [], [] => by simp [PyData.eqvAll]
  | [], _ :: _ => by simp [PyData.eqvAll]
  | _ :: _, [] => by simp [PyData.eqvAll]
  | x :: a, y :: b => by
    have h := rowAll_eqv a b
    simp only [List.map_cons, PyData.eqvAll, tupD_eqv, h]
    by_cases e : x = y
    · by_cases e2 : a = b
      · simp [e, e2]
      · simp [e, e2]
    · simp [e]
theorem rowD_eqv (a b : List (List Int)) : PyData.eqv (rowD a) (rowD b) = decide (a = b) := by
  simp only [rowD, PyData.eqv]
  exact rowAll_eqv a b
theorem row_any (x : List Int) : ∀ (l : List (List Int)), (l.map tupD).any (fun z => PyData.eqv z (tupD x)) = decide (x ∈ l)
  | [] => rfl
  | y :: l => by
    rw [List.map_cons, List.any_cons, row_any x l, tupD_eqv]
    by_cases e : y = x
    · simp [e]
    · have e' : ¬ x = y := fun q => e q.symm
      simp [e, e']
theorem dp_ints : ∀ (ns : List Int), DpAll K H (ns.map V.int) (ns.map .int)
  | [] => .nil
  | n :: ns => .cons (.int n) (dp_ints ns)
theorem dp_tup {ns : List Int} (h : TupV K B v ns) (s : Same B H) : Dp K H v (tupD ns) := by
  obtain ⟨a, rfl, h⟩ := h
  exact .tup (sqT_mono s h) (dp_ints ns)
theorem dp_all (s : Same B H) : ∀ {vs : List V} {l : List (List Int)}, All2 (TupV K B) vs l → DpAll K H vs (l.map tupD)
  | [], [], _ => .nil
  | [], _ :: _, h => by cases h.1
  | _ :: _, [], h => by cases h.1
  | v :: vs, n :: ns, h => .cons (dp_tup (h.2 0 v n rfl rfl) s) (dp_all s ⟨Nat.succ.inj h.1, fun i a b x y => h.2 (i + 1) a b x y⟩)
theorem dp_row {a : Addr} {vs : List V} {l : List (List Int)} (ha : H a = some (.lst vs)) (h : All2 (TupV K B) vs l) (s : Same B H) : Dp K H (.ref a) (rowD l) := .lst (SqL.of ha) (dp_all s h)
/-- two tuples compared -/
theorem vl_eqT {a b : List Int} (h1 : Vl ta σ H v) (h2 : Vl tb σ H u) (r1 : TupV K B v a) (r2 : TupV K B u b) (s : Same B H) : Vl (tOp (rEqD K) ta tb) σ H (.bl (decide (a = b))) := fun Q q => h1 _ (h2 _ ⟨_, _, dp_tup r1 s, dp_tup r2 s, tupD_shaped a, tupD_shaped b, by
  rw [tupD_eqv]
  exact q⟩)
theorem vl_neT {a b : List Int} (h1 : Vl ta σ H v) (h2 : Vl tb σ H u) (r1 : TupV K B v a) (r2 : TupV K B u b) (s : Same B H) : Vl (tOp (rNeD K) ta tb) σ H (.bl (!decide (a = b))) := fun Q q => h1 _ (h2 _ ⟨_, _, dp_tup r1 s, dp_tup r2 s, tupD_shaped a, tupD_shaped b, by
  rw [tupD_eqv]
  exact q⟩)
/-- a tuple in a list of tuples -/
theorem vl_inT {a : List Int} {vs : List V} {l : List (List Int)} (h1 : Vl ta σ H v) (h2 : Vl tb σ H (.ref p)) (r1 : TupV K B v a) (hp : H p = some (.lst vs)) (r2 : All2 (TupV K B) vs l) (s : Same B H) : Vl (tOp (rInD K) ta tb) σ H (.bl (decide (a ∈ l))) :=
  fun Q q => h1 _ (h2 _ ⟨_, l.map tupD, dp_tup r1 s, dp_row hp r2 s, tupD_shaped a, rowD_shaped l, by
    rw [row_any]
    exact q⟩)
/-- a list against the empty one; against another -/
theorem s_neNil {vs : List V} {l : List (List Int)} {Q : VK} (h1 : Vl ta σ H (.ref p)) (hp : H p = some (.lst vs)) (r : All2 (TupV K B) vs l) (s : Same B H) (k : ∀ q, H q = none → Q (.bl (!l.isEmpty)) (upd H q (.lst []))) : tOp (rNeD K) ta (tLst tNil) σ H Q :=
  h1 _ ⟨Nat.zero_le _, fun q hq => ⟨rowD l, rowD [], dp_row (Same.new hq _ _ hp) r (s.trans (Same.new hq)), .lst (SqL.of upd_same) .nil, rowD_shaped l, rowD_shaped [], by
    rw [rowD_eqv]
    have e : (!decide (l = [])) = !l.isEmpty := by cases l <;> rfl
    rw [e]
    exact k q hq⟩⟩
theorem vl_neRow {vs us : List V} {l m : List (List Int)} {p2 : Addr} (h1 : Vl ta σ H (.ref p)) (h2 : Vl tb σ H (.ref p2)) (hp : H p = some (.lst vs)) (r1 : All2 (TupV K B) vs l) (hp2 : H p2 = some (.lst us)) (r2 : All2 (TupV K B) us m) (s : Same B H) : Vl (tOp (rNeD K) ta tb) σ H (.bl (!decide (l = m))) :=
  fun Q q => h1 _ (h2 _ ⟨rowD l, rowD m, dp_row hp r1 s, dp_row hp2 r2 s, rowD_shaped l, rowD_shaped m, by
    rw [rowD_eqv]
    exact q⟩)
/-- ints -/
theorem intsL_shaped (ns : List Int) : SeqAt.shaped (.list (ns.map .int)) = true := by
  have h := intsD_depth ns
  show (PyData.canLay0 (.list (ns.map .int)) && decide (PyData.depth (.list (ns.map .int)) ≤ 64)) = true
  rw [Bool.and_eq_true]
  refine ⟨by simp only [PyData.canLay0]; exact intsD_lay ns, decide_eq_true ?_⟩
  simp only [PyData.depth]
  omega
theorem s_neNilI {ns : List Int} {Q : VK} (h1 : Vl ta σ H (.ref p)) (hp : H p = some (.lst (ns.map V.int))) (k : ∀ q, H q = none → Q (.bl (!ns.isEmpty)) (upd H q (.lst []))) : tOp (rNeD K) ta (tLst tNil) σ H Q :=
  h1 _ ⟨Nat.zero_le _, fun q hq => ⟨.list (ns.map .int), .list ([].map .int), .lst (SqL.of (Same.new hq _ _ hp)) (dp_ints ns), .lst (SqL.of upd_same) .nil, intsL_shaped ns, intsL_shaped [], by
    have e : (!PyData.eqv (.list (ns.map .int)) (.list (([] : List Int).map .int))) = !ns.isEmpty := by
      simp only [PyData.eqv, intsD_eqv]
      cases ns <;> rfl
    rw [e]
    exact k q hq⟩⟩
theorem s_eqNilI {ns : List Int} {Q : VK} (h1 : Vl ta σ H (.ref p)) (hp : H p = some (.lst (ns.map V.int))) (k : ∀ q, H q = none → Q (.bl ns.isEmpty) (upd H q (.lst []))) : tOp (rEqD K) ta (tLst tNil) σ H Q :=
  h1 _ ⟨Nat.zero_le _, fun q hq => ⟨.list (ns.map .int), .list ([].map .int), .lst (SqL.of (Same.new hq _ _ hp)) (dp_ints ns), .lst (SqL.of upd_same) .nil, intsL_shaped ns, intsL_shaped [], by
    have e : (PyData.eqv (.list (ns.map .int)) (.list (([] : List Int).map .int))) = ns.isEmpty := by
      simp only [PyData.eqv, intsD_eqv]
      cases ns <;> rfl
    rw [e]
    exact k q hq⟩⟩
end
end Lg

-- ==== LgP1 ====
set_option Elab.async false
set_option linter.all false
set_option maxRecDepth 100000
set_option maxHeartbeats 4000000
/-! LgP1: changes: what their defs promise, and that they keep it. -/
namespace Lg
open PySem PySem.Spec PyProof.Rows L2
open Gf11 (Line Position Change Hunk State)
section
variable {P : Program} {w : World} {K : PySem.W.Frag} {mg : Str → Option Value} {base : Heap}

/-! ### Change.__init__ -/
def linesOf (hs : List Hunk) : List Line := hs.flatMap fun h => h.lines
theorem linesOf_succ {hs : List Hunk} {i : Nat} {h : Hunk} (e : hs[i]? = some h) : linesOf (hs.take (i + 1)) = linesOf (hs.take i) ++ h.lines := by
  unfold linesOf
  rw [List.take_add_one, e, List.flatMap_append]
  simp
theorem linesOf_le (hs : List Hunk) (i : Nat) : (linesOf (hs.take i)).length ≤ (linesOf hs).length := by
  have : linesOf hs = linesOf (hs.take i) ++ linesOf (hs.drop i) := by
    unfold linesOf
    rw [← List.flatMap_append, List.take_append_drop]
  rw [this, List.length_append]
  omega
def spChangeInit (K : PySem.W.Frag) : Sp := fun vs H Q _ => ∃ (B : Hp) (p dx : Addr) (n : Int) (hs : List Hunk) (hv dv : V), vs = [.ref p, .int n, hv, dv] ∧ Same B H ∧ H p = some (.ins (gad K "Change") dx []) ∧ B p = none ∧
  LstV (HunkV K) B hv hs ∧ (linesOf hs).length ≤ 100000 ∧
  ∀ B' H' lv, ExtS p p B H B' H' → H' p = some (.ins (gad K "Change") dx (fC (.int n) hv dv lv)) → LstV (LineV K) B' lv (linesOf hs) → Q .non H'
theorem ok_Change_init (T : Txt K mg) : DOk P w K mg base CX0 1 (mad K "Change" "__init__") p_Change_init (spChangeInit K) := by
  refine ok_of_Change_init T (fun vs H Q E h => ?_) fun vs H Q E h => ?_
  · obtain ⟨B, p, dx, n, hs, hv, dv, rfl, _⟩ := h
    rfl
  obtain ⟨B, p, dx, n, hs, hv, dv, rfl, hB, hp, bp, ⟨ha, hvs, rfl, h1, h2⟩, hl, k⟩ := h
  refine ⟨_, rfl, _, rfl, p, _, dx, [], rfl, hp, T.cl_Change, T.a_Change_number, (by show 0 < 1000; decide), ?_⟩
  refine ⟨_, rfl, _, rfl, p, _, dx, _, rfl, upd_same, T.cl_Change, T.a_Change_hunks, (by show 1 < 1000; decide), ?_⟩
  refine ⟨_, rfl, _, rfl, p, _, dx, _, rfl, upd_same, T.cl_Change, T.a_Change_deleted, (by show 2 < 1000; decide), ?_⟩
  refine ⟨by show 0 ≤ sizeLine; exact Nat.zero_le _, fun q hq => ?_⟩
  have qp : q ≠ p := fun z => by
    rw [z, upd_same] at hq
    cases hq
  refine ⟨_, rfl, p, _, dx, _, rfl, (upd_ne (Ne.symm qp)).trans upd_same, T.cl_Change, T.a_Change_lines, (by show 3 < 1000; decide), ?_⟩
  have e0 : putF "lines" (.ref q) (putF "deleted" dv (putF "hunks" (.ref ha) (putF "number" (.int n) []))) = fC (.int n) (.ref ha) dv (.ref q) := by
    have n1 : ¬ ("number" : Str) = "hunks" := by decide +kernel
    have n2 : ¬ ("number" : Str) = "deleted" := by decide +kernel
    have n3 : ¬ ("hunks" : Str) = "deleted" := by decide +kernel
    have n4 : ¬ ("number" : Str) = "lines" := by decide +kernel
    have n5 : ¬ ("hunks" : Str) = "lines" := by decide +kernel
    have n6 : ¬ ("deleted" : Str) = "lines" := by decide +kernel
    show putF "lines" (.ref q) (putF "deleted" dv (putF "hunks" (.ref ha) [("number", .int n)])) = _
    rw [put_past n1]
    show putF "lines" (.ref q) (putF "deleted" dv [("number", .int n), ("hunks", .ref ha)]) = _
    rw [put_past n2, put_past n3]
    show putF "lines" (.ref q) [("number", .int n), ("hunks", .ref ha), ("deleted", dv)] = _
    rw [put_past n4, put_past n5, put_past n6]
    rfl
  have x0 : ExtS p p B H B (upd (upd (upd H p (.ins (gad K "Change") dx (putF "number" (.int n) []))) p (.ins (gad K "Change") dx (putF "hunks" (.ref ha) (putF "number" (.int n) [])))) p (.ins (gad K "Change") dx (putF "deleted" dv (putF "hunks" (.ref ha) (putF "number" (.int n) []))))) :=
    (((ExtS.refl hB).put (.inl rfl) bp).put (.inl rfl) bp).put (.inl rfl) bp
  have x1 := x0.new (o := .lst []) hq (by rw [upd_same]; exact fun z => nomatch z) (by rw [upd_same]; exact fun z => nomatch z)
  have x2 := x1.put (D := p) (o := .ins (gad K "Change") dx (fC (.int n) (.ref ha) dv (.ref q))) (.inl rfl) (by rw [upd_ne (Ne.symm qp)]; exact bp)
  rw [e0]
  refine s_forL (xs := hvs) (vl_var rfl) (SqL.of (x2.s _ _ (x2.b _ _ h1))) (fun i σ H' => ∃ B1 lv v4 v5 v6, σ = [some (.ref p), some (.int n), some (.ref ha), some dv, v4, v5, v6] ∧ ExtS p p B H B1 H' ∧
    H' p = some (.ins (gad K "Change") dx (fC (.int n) (.ref ha) dv lv)) ∧ LstV (LineV K) B1 lv (linesOf (hs.take i))) ?_ ?_ ?_ ?_
  · exact ⟨_, .ref q, none, none, none, rfl, x2, upd_same, q, [], rfl, upd_same, All2.nil⟩
  · rintro i σ H' _ ⟨B1, lv, v4, v5, v6, rfl, x, _⟩
    exact SqL.of (x.s _ _ (x.b _ _ h1))
  · rintro i x σ H' hi ⟨B1, lv, v4, v5, v6, rfl, e, hip, ⟨la, lvs, rfl, l1, l2⟩⟩
    obtain ⟨h, hh, ⟨ta, tx, ty, tz, rfl, t1, _, ⟨ya, yvs, rfl, y1, y2⟩, _⟩⟩ := h2.get hi
    refine g_three (sqT_mono (e.b.trans e.s) t1) ?_
    have hlen : lvs.length + yvs.length ≤ 100000 := by
      have q1 := linesOf_succ hh
      have q2 := linesOf_le hs (i + 1)
      rw [q1, List.length_append] at q2
      rw [l2.1, y2.1]
      omega
    refine ⟨_, rfl, p, _, dx, _, _, rfl, hip, T.cl_Change, T.a_Change_lines, fC_lines, _, rfl, la, ya, lvs, yvs, rfl, rfl, e.s _ _ l1, e.s _ _ (e.b _ _ y1), szl (by omega), fun q hq => ?_⟩
    have qp : q ≠ p := fun z => by
      rw [z, hip] at hq
      cases hq
    refine ⟨_, rfl, p, _, dx, _, rfl, (upd_ne (Ne.symm qp)).trans hip, T.cl_Change, T.a_Change_lines, (by show 4 < 1000; decide), ?_⟩
    have e0 : putF "lines" (.ref q) (fC (.int n) (.ref ha) dv (.ref la)) = fC (.int n) (.ref ha) dv (.ref q) := by
      have n4 : ¬ ("number" : Str) = "lines" := by decide +kernel
      have n5 : ¬ ("hunks" : Str) = "lines" := by decide +kernel
      have n6 : ¬ ("deleted" : Str) = "lines" := by decide +kernel
      rw [put_past n4, put_past n5, put_past n6, put_here]
    have hne : H' p ≠ none := by rw [hip]; exact fun z => nomatch z
    have e1 := e.new (o := .lst (lvs ++ yvs)) hq hne hne
    have bp1 : (upd B1 q (.lst (lvs ++ yvs))) p = none := by
      rw [upd_ne (Ne.symm qp)]
      exact e.f p _ hp bp
    have e2 := e1.put (D := p) (o := .ins (gad K "Change") dx (fC (.int n) (.ref ha) dv (.ref q))) (.inl rfl) bp1
    rw [e0]
    refine ⟨_, .ref q, _, _, _, rfl, e2, upd_same, q, _, rfl, upd_same, ?_⟩
    rw [linesOf_succ hh]
    have sB : Same B1 (upd B1 q (.lst (lvs ++ yvs))) := Same.new (e.s.free hq)
    exact (l2.mono fun a b r => mono_line _ _ _ _ sB r).append (y2.mono fun a b r => mono_line _ _ _ _ (e.b.trans sB) r)
  · rintro σ H' ⟨B1, lv, v4, v5, v6, rfl, e, hip, hl⟩
    rw [h2.1, List.take_length] at hl
    exact k B1 H' lv e hip hl
end
end Lg

-- ==== LgP2 ====
set_option Elab.async false
set_option linter.all false
set_option maxRecDepth 100000
set_option maxHeartbeats 4000000
/-! LgP2: a change's chains and dependencies. -/
namespace Lg
open PySem PySem.Spec PyProof.Rows L2
open Gf11 (Line Position Change Hunk State)
section
variable {P : Program} {w : World} {K : PySem.W.Frag} {mg : Str → Option Value} {base : Heap}

/-! ### chains -/
def chain (n k : Nat) (h : Hunk) : List Position := [h.before] ++ (List.range h.lines.length).map (fun i => Position.line n (k + i)) ++ [h.after]
def chainsOf (n : Nat) : Nat → List Hunk → List (List Position)
  | _, [] => []
  | k, h :: hs => chain n k h :: chainsOf n (k + h.lines.length) hs
theorem edges_chains (n : Nat) : ∀ (k : Nat) (hs : List Hunk), Gf11.hunkEdges n k hs = (chainsOf n k hs).flatMap Gf11.consecutive
  | _, [] => rfl
  | k, h :: hs => by
    show Gf11.consecutive (h.before :: ((List.range h.lines.length).map (fun i => Position.line n (k + i)) ++ [h.after])) ++ Gf11.hunkEdges n (k + h.lines.length) hs = Gf11.consecutive (chain n k h) ++ (chainsOf n (k + h.lines.length) hs).flatMap Gf11.consecutive
    rw [edges_chains n (k + h.lines.length) hs]
    rfl
theorem chainsOf_snoc (n : Nat) : ∀ (k : Nat) (hs : List Hunk) (h : Hunk), chainsOf n k (hs ++ [h]) = chainsOf n k hs ++ [chain n (k + (linesOf hs).length) h]
  | _, [], h => rfl
  | k, g :: hs, h => by
    show chain n k g :: chainsOf n (k + g.lines.length) (hs ++ [h]) = chain n k g :: (chainsOf n (k + g.lines.length) hs ++ [chain n (k + (linesOf (g :: hs)).length) h])
    rw [chainsOf_snoc n (k + g.lines.length) hs h]
    have e : (linesOf (g :: hs)).length = g.lines.length + (linesOf hs).length := by
      unfold linesOf
      rw [List.flatMap_cons, List.length_append]
    rw [e, Nat.add_assoc]
theorem chainsOf_len (n : Nat) : ∀ (k : Nat) (hs : List Hunk), (chainsOf n k hs).length = hs.length
  | _, [] => rfl
  | k, h :: hs => congrArg (· + 1) (chainsOf_len n _ hs)
/-- a change that is not large -/
structure Small (c : Change) : Prop where
  lines : (Gf11.insertedLines c).length ≤ 8
  hunks : c.hunks.length ≤ 200
  gone : c.deleted.length ≤ 200
theorem linesOf_eq (c : Change) : linesOf c.hunks = Gf11.insertedLines c := rfl
def spChains (K : PySem.W.Frag) : Sp := fun vs H Q _ => ∃ (B : Hp) (v : V) (n : Nat) (c : Change), vs = [v] ∧ Same B H ∧ ChangeV K B v (n, c) ∧ Small c ∧ Ret B H Q fun B' v => LstV (LstV (PosV K)) B' v (chainsOf n 0 c.hunks)
theorem toNat_take {n : Nat} {i : Nat} (h : i < n) : (i : Nat) = i := rfl
theorem ok_Change_chains (T : Txt K mg) : DOk P w K mg base CX0 1 (mad K "Change" "chains") p_Change_chains (spChains K) := by
  refine ok_of_Change_chains T (fun vs H Q E h => ?_) fun vs H Q E h => ?_
  · obtain ⟨B, v, n, c, rfl, _⟩ := h
    rfl
  obtain ⟨B, v, n, c, rfl, hB, ⟨a, dx, hv, dv, lv, rfl, ha, ⟨hva, hvs, rfl, h1, h2⟩, _, _⟩, sm, k⟩ := h
  refine ⟨Nat.zero_le _, fun D hD => ⟨by show 2 ≤ sizeLine; decide, fun p hp => g_two (SqT.of upd_same) ?_⟩⟩
  have x0 : Ext B H B (upd (upd H D (.lst [])) p (.tup [.ref D, .int 0])) := ((Ext.refl hB).tmp hD).tmp hp
  have pD : p ≠ D := fun z => by
    rw [z, upd_same] at hp
    cases hp
  have bD : B D = none := hB.free hD
  refine s_forL (xs := hvs) (vl_fld (vl_var rfl) (x0.h _ _ (hB _ _ ha)) T.cl_Change T.a_Change_hunks fC_hunks) (SqL.of (x0.h _ _ (hB _ _ h1)))
    (fun i σ H' => ∃ B1 vs v3 v4 v5 v6 v7, σ = [some (.ref a), some (.ref D), some (.int ((linesOf (c.hunks.take i)).length : Nat)), v3, v4, v5, v6, v7] ∧ Ext B H B1 H' ∧ B1 D = none ∧ H' D = some (.lst vs) ∧
      All2 (LstV (PosV K) B1) vs (chainsOf n 0 (c.hunks.take i))) ?_ ?_ ?_ ?_
  · exact ⟨B, [], none, none, none, none, none, rfl, x0, bD, (upd_ne (Ne.symm pD)).trans upd_same, All2.nil⟩
  · rintro i σ H' _ ⟨B1, vs, v3, v4, v5, v6, v7, rfl, x, _⟩
    exact SqL.of (x.h _ _ (hB _ _ h1))
  · rintro i x σ H' hi ⟨B1, vs, v3, v4, v5, v6, v7, rfl, e, bD1, hDv, al⟩
    obtain ⟨h, hh, ⟨ta, tx, ty, tz, rfl, t1, ⟨pxa, rfl, px⟩, ⟨ya, yvs, rfl, y1, y2⟩, ⟨pza, rfl, pz⟩⟩⟩ := h2.get hi
    refine g_three (sqT_mono (e.b.trans e.s) t1) ?_
    have lle : (linesOf (c.hunks.take i)).length ≤ 8 := Nat.le_trans (linesOf_le _ _) sm.lines
    have hle : h.lines.length ≤ 8 := by
      have q1 := linesOf_succ hh
      have q2 := linesOf_le c.hunks (i + 1)
      rw [q1, List.length_append] at q2
      have := sm.lines
      rw [← linesOf_eq] at this
      omega
    -- own = [(self.number, at + number) for number in range(len(lines))]
    refine s_seq (s_asgN ?_)
    refine s_lcR (B := B1) (R := PosV K) (n := h.lines.length) (ys := fun i' => some (.line n ((linesOf (c.hunks.take i)).length + i'))) e.s mono_pos (fun Q q => vl_lenL (vl_var rfl) (SqL.of (e.s _ _ (e.b _ _ y1))) _ (by rw [y2.1]; exact q)) (by omega) (fun _ => rfl)
      (fun i' B2 H2 hi' e2 => ⟨true, tl_yes, fun _ Q q => ?_, fun z => nomatch z⟩) fun B3 H3 ov e3 r3 => ?_
    · refine s_tup (al_cons (vl_fld (vl_var rfl) (e2.h _ _ (e.h _ _ (hB _ _ ha))) T.cl_Change T.a_Change_number fC_number) (al_cons (vl_add (vl_var rfl) (vl_var rfl)) al_nil)) (by show 2 ≤ 1000; decide) fun t ht => ?_
      refine q _ _ _ ((Ext.refl e2.s).new ht) ⟨_, ⟨t, rfl, SqT.of upd_same⟩, rfl⟩
    · obtain ⟨oa, ovs, rfl, o1, o2⟩ := r3
      have ef := e.trans e3
      have bD3 := e3.f D _ hDv bD1
      have hD3 := e3.h D _ hDv
      have olen : ovs.length ≤ 8 := by
        rw [o2.1]
        exact Nat.le_trans lcw_len hle
      -- found.append([before] + own + [after])
      refine ⟨_, rfl, .inl ⟨rfl, _, SqL.of hD3⟩, _, rfl, (by show 1 ≤ sizeLine; decide), fun q1 hq1 => ?_⟩
      refine ⟨_, rfl, q1, oa, _, _, rfl, rfl, upd_same, Same.new hq1 _ _ (e3.s _ _ o1), szl (by simp only [List.length_singleton]; omega), fun q2 hq2 => ?_⟩
      refine ⟨_, rfl, (by show 1 ≤ sizeLine; decide), fun q3 hq3 => ?_⟩
      refine ⟨q2, q3, _, _, rfl, rfl, Same.new hq3 _ _ upd_same, upd_same, szl (by simp only [List.length_append, List.length_singleton]; omega), fun q4 hq4 => ?_⟩
      have x5 := (((Ext.refl e3.s).tmp (o := .lst [.ref pxa]) hq1).tmp (o := .lst ([.ref pxa] ++ ovs)) hq2).tmp (o := .lst [.ref pza]) hq3
      have x6 := x5.new (o := .lst ([.ref pxa] ++ ovs ++ [.ref pza])) hq4
      have hD6 := x6.h D _ hD3
      refine ⟨D, vs, .ref q4, rfl, rfl, hD6, szlt ?_, ?_⟩
      · rw [al.1, chainsOf_len, List.length_take]
        have := sm.hunks
        omega
      have bD6 := x6.f D _ hD3 bD3
      have x7 := (ef.trans x6).mut (o := .lst (vs ++ [.ref q4])) hD bD6
      refine s_aug rfl (vl_lenL (vl_var rfl) (SqL.of (x7.s _ _ (x6.b _ _ (ef.b _ _ y1))))) ?_
      refine ⟨_, _, some (.ref pxa), some (.ref ya), some (.ref pza), some (.ref oa), v7, ?_, x7, bD6, upd_same, ?_⟩
      · rw [linesOf_succ hh, List.length_append, ← y2.1, Int.natCast_add]
        rfl
      · have e4 : c.hunks.take (i + 1) = c.hunks.take i ++ [h] := by rw [List.take_add_one, hh]; rfl
        rw [e4, chainsOf_snoc]
        refine (al.mono fun u v r => mono_lst mono_pos _ _ _ _ (e3.b.trans x6.b) r).snoc ⟨q4, _, rfl, upd_same, ?_⟩
        have o3 : All2 (PosV K B3) ovs ((List.range h.lines.length).map fun i' => Position.line n (0 + (linesOf (c.hunks.take i)).length + i')) := by
          rw [Nat.zero_add]
          have e5 : (List.range h.lines.length).filterMap (fun i' => some (Position.line n ((linesOf (c.hunks.take i)).length + i'))) = (List.range h.lines.length).map fun i' => Position.line n ((linesOf (c.hunks.take i)).length + i') := by
            rw [List.filterMap_eq_map']
          rw [e5] at o2
          exact o2
        have s3 : Same B (upd B3 q4 (.lst ([.ref pxa] ++ ovs ++ [.ref pza]))) := ef.b.trans x6.b
        exact ((All2.cons ⟨pxa, rfl, sqT_mono s3 px⟩ All2.nil).append (o3.mono fun u v r => mono_pos _ _ _ _ x6.b r)).append (All2.cons ⟨pza, rfl, sqT_mono s3 pz⟩ All2.nil)
  · rintro σ H' ⟨B1, vs, v3, v4, v5, v6, v7, rfl, e, bD1, hDv, al⟩
    rw [h2.1, List.take_length] at al
    refine ⟨_, rfl, ?_⟩
    exact k _ _ _ (e.keep hD bD1 hDv) ⟨D, vs, rfl, upd_same, al.mono fun u v r => mono_lst mono_pos _ _ _ _ (Same.new bD1) r⟩
end
end Lg

-- ==== LgP3 ====
set_option Elab.async false
set_option linter.all false
set_option maxRecDepth 100000
set_option maxHeartbeats 4000000
/-! LgP3: a change's dependencies. -/
namespace Lg
open PySem PySem.Spec PyProof.Rows L2
open Gf11 (Line Position Change Hunk State)

theorem filterMap_bind {α β : Type} (l : List α) (f : α → Option β) : (List.range l.length).filterMap (fun i => (l[i]?).bind f) = l.filterMap f := by
  have key : ∀ n, n ≤ l.length → (List.range n).filterMap (fun i => (l[i]?).bind f) = (l.take n).filterMap f := by
    intro n
    induction n with
    | zero => intro _; rfl
    | succ n ih =>
      intro hn
      have hlt : n < l.length := hn
      rw [List.range_succ, List.filterMap_append, ih (Nat.le_of_lt hlt), List.take_add_one, List.getElem?_eq_getElem hlt, List.filterMap_append]
      simp only [List.filterMap_cons, List.filterMap_nil, List.getElem?_eq_getElem hlt, Option.bind_some, Option.toList_some]
  rw [key _ (Nat.le_refl _), List.take_length]
theorem all2_ints {B : Hp} : ∀ {vs : List V} {ns : List Int}, All2 (IntV B) vs ns → vs = ns.map V.int
  | [], [], _ => rfl
  | [], _ :: _, h => by cases h.1
  | _ :: _, [], h => by cases h.1
  | v :: vs, n :: ns, h => by
    have h0 : v = .int n := h.2 0 v n rfl rfl
    have ht : All2 (IntV B) vs ns := ⟨Nat.succ.inj h.1, fun i a b x y => h.2 (i + 1) a b x y⟩
    rw [h0, all2_ints ht]
    rfl
theorem ints_all2 {B : Hp} (ns : List Int) : All2 (IntV B) (ns.map V.int) ns := by
  have := All2.map (R := IntV B) (f := V.int) (g := id) (l := ns) fun c _ => rfl
  rw [List.map_id] at this
  exact this
theorem ints_of_lst {B : Hp} {v : V} {ns : List Int} (h : LstV IntV B v ns) : IntsV B v ns := by
  obtain ⟨a, vs, rfl, h1, h2⟩ := h
  rw [all2_ints h2] at h1
  exact ⟨a, rfl, h1⟩
/-- two strictly rising lists of ints with the same members are one -/
theorem upI_ext : ∀ {l m : List Int}, l.Pairwise (· < ·) → m.Pairwise (· < ·) → (∀ x, x ∈ l ↔ x ∈ m) → l = m
  | [], [], _, _, _ => rfl
  | [], b :: m, _, _, h => by
    have := (h b).mpr List.mem_cons_self
    cases this
  | a :: l, [], _, _, h => by
    have := (h a).mp List.mem_cons_self
    cases this
  | a :: l, b :: m, hl, hm, h => by
    rw [List.pairwise_cons] at hl hm
    have e : a = b := by
      have h1 := (h a).mp List.mem_cons_self
      have h2 := (h b).mpr List.mem_cons_self
      rcases List.mem_cons.mp h1 with e | h1
      · exact e
      · rcases List.mem_cons.mp h2 with e | h2
        · exact e.symm
        · have := hl.1 b h2
          have := hm.1 a h1
          omega
    subst e
    congr 1
    refine upI_ext hl.2 hm.2 fun x => ⟨fun hx => ?_, fun hx => ?_⟩
    · rcases List.mem_cons.mp ((h x).mp (List.mem_cons_of_mem _ hx)) with e | q
      · have := hl.1 x hx
        omega
      · exact q
    · rcases List.mem_cons.mp ((h x).mpr (List.mem_cons_of_mem _ hx)) with e | q
      · have := hm.1 x hx
        omega
      · exact q
theorem toI_up {l : List Nat} (h : Up l) : (toI l).Pairwise (· < ·) := by
  unfold toI
  rw [List.pairwise_map]
  exact h.imp fun q => by omega
theorem nodup_len {l : List Int} {n : Nat} (h : l.Nodup) (hb : ∀ x ∈ l, 0 ≤ x ∧ x < n) : l.length ≤ n := by
  have hp := List.mergeSort_perm (l.map Int.toNat) (fun a b => decide (a ≤ b))
  have hs : ((l.map Int.toNat).mergeSort fun a b => decide (a ≤ b)).Pairwise fun a b => decide (a ≤ b) = true := List.pairwise_mergeSort (fun a b c h1 h2 => by simp at *; omega) (fun a b => by simp; omega) _
  have hn : (l.map Int.toNat).Nodup := by
    rw [List.Nodup, List.pairwise_map]
    refine List.Pairwise.imp_of_mem (fun {a b} ha hb' q e => q ?_) h
    have := hb a ha
    have := hb b hb'
    omega
  have hn2 := hp.nodup_iff.mpr hn
  have hu : Up ((l.map Int.toNat).mergeSort fun a b => decide (a ≤ b)) := by
    refine (hs.and hn2).imp fun {a b} q => ?_
    have h1 := of_decide_eq_true q.1
    have h2 := q.2
    omega
  have := up_len0 (n := n) hu fun x hx => by
    obtain ⟨y, hy, rfl⟩ := List.mem_map.mp (hp.mem_iff.mp hx)
    have := hb y hy
    omega
  rw [hp.length_eq, List.length_map] at this
  exact this
section
variable {P : Program} {w : World} {K : PySem.W.Frag} {mg : Str → Option Value} {base : Heap}
def chI : Position → Option Int
  | .line p _ => some (p : Int)
  | _ => none
def h0 (x : Position) : Int := (posI x).headD 0
def h1 (x : Position) : Int := ((posI x).drop 1).headD 0
theorem posI_two (x : Position) : posI x = [h0 x, h1 x] := by cases x <;> rfl
def placesOf (c : Change) (i : Nat) : List Position := c.deleted ++ (c.hunks.take i).flatMap fun h => [h.before, h.after]
theorem mem_chI {c : Change} {k : Int} : k ∈ (placesOf c c.hunks.length).filterMap chI ↔ k ∈ toI (Gf11.dependencies c) := by
  unfold placesOf
  rw [List.take_length]
  have one : ∀ (x : Position), chI x = some k ↔ ∃ n ∈ Gf11.changeOf x, k = (n : Int) := by
    intro x
    cases x with
    | line p i =>
      constructor
      · intro h
        exact ⟨p, List.mem_singleton.mpr rfl, (Option.some.inj h).symm⟩
      · rintro ⟨n, hn, e⟩
        rw [List.mem_singleton.mp hn] at e
        rw [e]
        rfl
    | start => exact ⟨fun h => (nomatch h), fun ⟨n, hn, _⟩ => (nomatch hn)⟩
    | end_ => exact ⟨fun h => (nomatch h), fun ⟨n, hn, _⟩ => (nomatch hn)⟩
  rw [List.mem_filterMap]
  unfold toI
  rw [List.mem_map]
  constructor
  · rintro ⟨x, hx, hk⟩
    obtain ⟨n, hn, e⟩ := (one x).mp hk
    refine ⟨n, mem_deps.mpr ?_, e.symm⟩
    rcases List.mem_append.mp hx with hx | hx
    · exact .inr ⟨x, hx, hn⟩
    · obtain ⟨h, hh, hx⟩ := List.mem_flatMap.mp hx
      rcases List.mem_cons.mp hx with rfl | hx
      · exact .inl ⟨h, hh, .inl hn⟩
      · rw [List.mem_singleton.mp hx] at hn
        exact .inl ⟨h, hh, .inr hn⟩
  · rintro ⟨n, hn, e⟩
    rcases mem_deps.mp hn with ⟨h, hh, hq | hq⟩ | ⟨d, hd, hq⟩
    · exact ⟨h.before, List.mem_append_right _ (List.mem_flatMap.mpr ⟨h, hh, List.mem_cons_self⟩), (one _).mpr ⟨n, hq, e.symm⟩⟩
    · exact ⟨h.after, List.mem_append_right _ (List.mem_flatMap.mpr ⟨h, hh, List.mem_cons_of_mem _ List.mem_cons_self⟩), (one _).mpr ⟨n, hq, e.symm⟩⟩
    · exact ⟨d, List.mem_append_left _ hd, (one _).mpr ⟨n, hq, e.symm⟩⟩
def spDeps (K : PySem.W.Frag) : Sp := fun vs H Q _ => ∃ (B : Hp) (v : V) (n : Nat) (c : Change), vs = [v] ∧ Same B H ∧ ChangeV K B v (n, c) ∧ Small c ∧ (∀ p ∈ Gf11.dependencies c, p < 60) ∧ Ret B H Q fun B' v => IntsV B' v (toI (Gf11.dependencies c))
theorem ok_Change_dependencies (T : Txt K mg) : DOk P w K mg base CX0 1 (mad K "Change" "dependencies") p_Change_dependencies (spDeps K) := by
  refine ok_of_Change_dependencies T (fun vs H Q E h => ?_) fun vs H Q E h => ?_
  · obtain ⟨B, v, n, c, rfl, _⟩ := h
    rfl
  obtain ⟨B, v, n, c, rfl, hB, ⟨a, dx, hv, dv, lv, rfl, ha, ⟨hva, hvs, rfl, h1', h2⟩, ⟨dva, dvs, rfl, d1, d2⟩, _⟩, sm, dlt, k⟩ := h
  refine s_seq (s_asgN (vl_fld (vl_var rfl) (hB _ _ ha) T.cl_Change T.a_Change_deleted fC_deleted _ ⟨dva, dvs, rfl, .inl (SqL.of (hB _ _ d1)), fun D hD => ?_⟩))
  have bD : B D = none := hB.free hD
  have x0 : Ext B H B (upd H D (.lst dvs)) := (Ext.refl hB).tmp hD
  refine s_seq (s_forL (xs := hvs) (vl_fld (vl_var rfl) (x0.h _ _ (hB _ _ ha)) T.cl_Change T.a_Change_hunks fC_hunks) (SqL.of (x0.h _ _ (hB _ _ h1')))
    (fun i σ H' => ∃ vs v2 v3 v4, σ = [some (.ref a), some (.ref D), v2, v3, v4, none, none] ∧ Ext B H B H' ∧ H' D = some (.lst vs) ∧ All2 (PosV K B) vs (placesOf c i)) ?_ ?_ ?_ ?_)
  · refine ⟨dvs, none, none, none, rfl, x0, upd_same, ?_⟩
    show All2 (PosV K B) dvs (c.deleted ++ [])
    rw [List.append_nil]
    exact d2
  · rintro i σ H' _ ⟨vs, v2, v3, v4, rfl, x, _⟩
    exact SqL.of (x.h _ _ (hB _ _ h1'))
  · rintro i x σ H' hi ⟨vs, v2, v3, v4, rfl, e, hDv, al⟩
    obtain ⟨h, hh, ⟨ta, tx, ty, tz, rfl, t1, px, _, pz⟩⟩ := h2.get hi
    refine g_three (sqT_mono (e.b.trans e.s) t1) ?_
    have hlen : vs.length ≤ 600 := by
      rw [al.1]
      unfold placesOf
      rw [List.length_append]
      have q : ((c.hunks.take i).flatMap fun h => [h.before, h.after]).length = 2 * (c.hunks.take i).length := by
        generalize c.hunks.take i = l
        induction l with
        | nil => rfl
        | cons g l ih =>
          rw [List.flatMap_cons, List.length_append, ih]
          simp only [List.length_cons, List.length_nil]
          omega
      rw [q, List.length_take]
      have := sm.hunks
      have := sm.gone
      omega
    refine ⟨_, rfl, .inl ⟨rfl, _, SqL.of hDv⟩, s_cons (s_lst (al_cons (vl_var rfl) (al_cons (vl_var rfl) al_nil)) (by show 2 ≤ 1000; decide) fun q hq => ?_)⟩
    have hD1 := Same.new (o := .lst [tx, tz]) hq D _ hDv
    refine ⟨D, q, vs, [tx, tz], rfl, rfl, hD1, upd_same, szl (by show vs.length + 2 ≤ _; omega), ?_⟩
    refine ⟨vs ++ [tx, tz], some tx, some ty, some tz, rfl, (e.tmp hq).mut hD bD, upd_same, ?_⟩
    have e4 : placesOf c (i + 1) = placesOf c i ++ [h.before, h.after] := by
      unfold placesOf
      rw [List.take_add_one, hh, List.flatMap_append, ← List.append_assoc]
      rfl
    rw [e4]
    exact al.append (.cons px (.cons pz .nil))
  · rintro σ H' ⟨vs, v2, v3, v4, rfl, e, hDv, al⟩
    rw [h2.1] at al
    have hlen : vs.length ≤ 600 := by
      rw [al.1]
      unfold placesOf
      rw [List.length_append, List.take_length]
      have q : (c.hunks.flatMap fun h => [h.before, h.after]).length = 2 * c.hunks.length := by
        generalize c.hunks = l
        induction l with
        | nil => rfl
        | cons g l ih =>
          rw [List.flatMap_cons, List.length_append, ih]
          simp only [List.length_cons, List.length_nil]
          omega
      rw [q]
      have := sm.hunks
      have := sm.gone
      omega
    dsimp only
    refine s_retN (s_cb (s_cons (s_cb (s_cons ?_))))
    generalize hps : placesOf c c.hunks.length = ps at al
    refine s_lcL2 (B := B) (R := IntV) (xs := vs) (ys := fun i => (ps[i]?).bind chI) (fun i => .int (h0 (ps.getD i .start))) (fun i => .int (h1 (ps.getD i .start))) e.s mono_int (vl_var rfl) (SqL.of hDv) (by omega) (fun _ _ => rfl) (fun i x hi => ?_) (fun i B1 H1 hi e1 => ?_) fun B2 H2 v2' e2 r2 => ?_
    · obtain ⟨y, hy, t, rfl, ht⟩ := al.get hi
      have q : ps.getD i .start = y := by rw [List.getD_eq_getElem?_getD, hy]; rfl
      refine ⟨t, rfl, ?_⟩
      rw [q]
      rw [posI_two] at ht
      exact sqT_mono e.s ht
    · rw [al.1] at hi
      have hy : ps[i]? = some (ps[i]) := List.getElem?_eq_getElem hi
      have q : ps.getD i .start = ps[i] := by rw [List.getD_eq_getElem?_getD, hy]; rfl
      refine ⟨_, tl_test (vl_ge (vl_var rfl) vl_c), fun hb Q2 k2 => ?_, fun hb => ?_⟩
      · refine vl_var rfl _ (k2 _ _ _ (Ext.refl e1.s) ?_)
        rw [q] at hb ⊢
        rw [hy]
        cases hx : ps[i] with
        | line p j => exact ⟨_, rfl, rfl⟩
        | start =>
          rw [hx] at hb
          exact absurd hb (by decide)
        | end_ =>
          rw [hx] at hb
          exact absurd hb (by decide)
      · rw [q] at hb
        rw [hy]
        cases hx : ps[i] with
        | line p j =>
          rw [hx] at hb
          have : ¬ ((0 : Int) ≤ (p : Int)) := of_decide_eq_false hb
          omega
        | start => rfl
        | end_ => rfl
    · rw [al.1, filterMap_bind] at r2
      obtain ⟨la, rfl, l1⟩ := ints_of_lst r2
      have hsz : (ps.filterMap chI).length ≤ 1000 := by
        have := List.length_filterMap_le chI ps
        rw [← al.1] at this
        omega
      refine ⟨la, ps.filterMap chI, rfl, SqL.of (e2.s _ _ l1), hsz, fun sa m hsa mn mm => ?_⟩
      rw [← hps] at mm
      have mlt : ∀ x ∈ m, 0 ≤ x ∧ x < (60 : Nat) := fun x hx => by
        obtain ⟨p, hp, rfl⟩ := List.mem_map.mp (mem_chI.mp ((mm x).mp hx))
        have := dlt p hp
        omega
      have ml := nodup_len mn mlt
      refine ⟨sa, _, m.length, rfl, upd_same, by omega, fun ns p hu hm hl hp => ?_⟩
      have e5 : ns = toI (Gf11.dependencies c) := upI_ext hu (toI_up (up_deps c)) fun x => by
        rw [hm, decide_eq_true_iff, ← hps]
        exact mem_chI
      rw [e5]
      exact k _ _ _ (((e.trans e2).tmp hsa).new hp) ⟨p, rfl, upd_same⟩
end
end Lg

-- ==== LgP4 ====
set_option Elab.async false
set_option linter.all false
set_option maxRecDepth 100000
set_option maxHeartbeats 4000000
/-! LgP4: the table of common lines. -/
namespace Lg
open PySem PySem.Spec PyProof.Rows L2
open Gf11 (Line Position Change Hunk State)
section
variable {P : Program} {w : World} {K : PySem.W.Frag} {mg : Str → Option Value} {base : Heap}

theorem forC {n : Nat} {g : TG} {tb : TS} {D : Ends} {σ : L2.St} {H : Hp} {ta : TA} (h : ∀ Q : List V → Hp → Prop, Q [.int ((n : Int) - 1), .int (-1), .int (-1)] H → ta σ H Q) (hz : n ≤ 1000000) (Pv : Nat → L2.St → Hp → Prop) (h0 : Pv 0 σ H)
    (hs : ∀ (i : Nat) σ H, i < n → Pv i σ H → g (.int ((n - 1 - i : Nat) : Int)) σ H fun σ2 H2 => tb { D with nx := Pv (i + 1), ct := Pv (i + 1), bk := D.nx } σ2 H2) (hd : ∀ σ H, Pv n σ H → D.nx σ H) : tFor (iRng3 ta) g tb D σ H := by
  refine h _ ⟨(n : Int) - 1, -1, -1, n, rfl, ?_, ?_⟩
  · have q := RgC.neg (i := (n : Int) - 1) (j := -1) (by omega) (by omega) (by omega) (by omega)
    have e : ((n : Int) - 1 - -1).toNat = n := by omega
    rw [e] at q
    exact q
  · refine for_rangeC Pv h0 (fun i σ H hi p => ?_) hd
    have e : (n : Int) - 1 + (i : Nat) * (-1) = ((n - 1 - i : Nat) : Int) := by omega
    rw [e]
    exact hs i σ H hi p
/-- a matrix of numbers: its rows at rows, in the list at D -/
structure Mat (H0 H : Hp) (D : Addr) (rows : List Addr) (n m : Nat) (f : Nat → Nat → Nat) : Prop where
  d : H D = some (.lst (rows.map V.ref))
  len : rows.length = n
  nd : rows.Nodup
  fresh : ∀ r ∈ rows, H0 r = none ∧ r ≠ D
  row : ∀ i r, rows[i]? = some r → H r = some (.lst ((List.range m).map fun j => V.int (f i j : Nat)))
theorem set_map {m j v : Nat} {f : Nat → Nat} (hj : j < m) : ((List.range m).map fun j' => V.int (f j' : Nat)).set j (.int (v : Int)) = (List.range m).map fun j' => V.int ((if j' = j then v else f j') : Nat) := by
  apply List.ext_getElem?
  intro i
  rw [List.getElem?_set, List.getElem?_map, List.getElem?_map, List.length_map, List.length_range]
  by_cases c : j = i
  · subst c
    rw [if_pos rfl, if_pos hj]
    simp [hj]
  · rw [if_neg c]
    by_cases hi : i < m
    · have c' : ¬ i = j := fun q => c q.symm
      simp [hi, c']
    · simp [hi]
theorem Mat.set {H0 H : Hp} {D : Addr} {rows : List Addr} {n m : Nat} {f : Nat → Nat → Nat} (M : Mat H0 H D rows n m f) {i j v : Nat} {r : Addr} (hr : rows[i]? = some r) (hj : j < m) :
    Mat H0 (upd H r (.lst (((List.range m).map fun j' => V.int (f i j' : Nat)).set j (.int (v : Int))))) D rows n m fun i' j' => if i' = i ∧ j' = j then v else f i' j' := by
  have rm := M.fresh r (List.mem_of_getElem? hr)
  refine ⟨(upd_ne (Ne.symm rm.2)).trans M.d, M.len, M.nd, M.fresh, fun i' r' hr' => ?_⟩
  by_cases c : i' = i
  · subst c
    rw [hr] at hr'
    cases hr'
    rw [upd_same, set_map hj]
    congr 3
    funext j'
    by_cases e : j' = j
    · simp [e]
    · simp [e]
  · have ne : r' ≠ r := fun z => c (nd_ix M.nd (z ▸ hr') hr)
    rw [upd_ne ne, M.row i' r' hr']
    congr 3
    funext j'
    rw [if_neg (fun q => c q.1)]
theorem Mat.congr {H0 H : Hp} {D : Addr} {rows : List Addr} {n m : Nat} {f g : Nat → Nat → Nat} (M : Mat H0 H D rows n m f) (h : ∀ i j, i < n → j < m → f i j = g i j) : Mat H0 H D rows n m g := by
  refine ⟨M.d, M.len, M.nd, M.fresh, fun i r hr => ?_⟩
  rw [M.row i r hr]
  congr 2
  refine List.map_congr_left fun j hj => ?_
  have hi : i < n := by
    rw [← M.len]
    exact (List.getElem?_eq_some_iff.mp hr).1
  rw [h i j hi (List.mem_range.mp hj)]
/-- what the table says: f i j kept lines of the old ones from i on and the new ones from j on -/
def tab (old new : List Line) (i j : Nat) : Nat := Gf11.lcsLength (old.drop i) (new.drop j)
def part (old new : List Line) (t u i j : Nat) : Nat := if old.length ≤ i + t ∨ (old.length = i + t + 1 ∧ new.length ≤ j + u) then tab old new i j else 0
theorem tab_end1 {old new : List Line} {j : Nat} : tab old new old.length j = 0 := by
  unfold tab
  rw [List.drop_length]
  exact lcs_nil _
theorem tab_end2 {old new : List Line} {i j : Nat} (h : new.length ≤ j) : tab old new i j = 0 := by
  unfold tab
  rw [List.drop_eq_nil_of_le h]
  exact lcs_nil2 _
theorem tab_step {old new : List Line} {i j : Nat} {x y : Line} (hx : old[i]? = some x) (hy : new[j]? = some y) : tab old new i j = if x = y then 1 + tab old new (i + 1) (j + 1) else max (tab old new (i + 1) j) (tab old new i (j + 1)) := by
  have e1 : old.drop i = x :: old.drop (i + 1) := by
    obtain ⟨h, e⟩ := List.getElem?_eq_some_iff.mp hx
    rw [List.drop_eq_getElem_cons h, e]
  have e2 : new.drop j = y :: new.drop (j + 1) := by
    obtain ⟨h, e⟩ := List.getElem?_eq_some_iff.mp hy
    rw [List.drop_eq_getElem_cons h, e]
  unfold tab
  rw [e1, e2, lcs_cons]
def tableOf (old new : List Line) : List (List Nat) := (List.range (old.length + 1)).map fun i => (List.range (new.length + 1)).map fun j => tab old new i j
def spTable (K : PySem.W.Frag) : Sp := fun vs H Q _ => ∃ (B : Hp) (ov nv : V) (old new : List Line), vs = [ov, nv] ∧ Same B H ∧ LstV (LineV K) B ov old ∧ LstV (LineV K) B nv new ∧ old.length ≤ 1000 ∧ new.length ≤ 1000 ∧
  Ret B H Q fun B' v => LstV (LstV NatV) B' v (tableOf old new)
/-- freezing the rows of a matrix -/
theorem Mat.keep {H0 H B0 B : Hp} {D : Addr} {rows : List Addr} {n m : Nat} {f : Nat → Nat → Nat} (M : Mat H0 H D rows n m f) (x : Ext B0 H0 B H) (hD : H0 D = none) (hb : B D = none) (hr : ∀ r ∈ rows, B r = none) :
    ∃ B', Ext B0 H0 B' H ∧ LstV (LstV NatV) B' (.ref D) ((List.range n).map fun i => (List.range m).map fun j => f i j) := by
  have key : ∀ k, k ≤ rows.length → ∃ B', Ext B0 H0 B' H ∧ B' D = none ∧ (∀ r ∈ rows.drop k, B' r = none) ∧ ∀ i r, i < k → rows[i]? = some r → LstV NatV B' (.ref r) ((List.range m).map fun j => f i j) := by
    intro k
    induction k with
    | zero => intro _; exact ⟨B, x, hb, hr, fun i r h => absurd h (Nat.not_lt_zero _)⟩
    | succ k ih =>
      intro hk
      obtain ⟨B1, x1, b1, f1, g1⟩ := ih (by omega)
      have hlt : k < rows.length := hk
      have he : rows[k]? = some rows[k] := List.getElem?_eq_getElem hlt
      generalize hrk : rows[k] = rk at he
      have mem : rk ∈ rows := List.mem_of_getElem? he
      have fr := M.fresh rk mem
      have brk : B1 rk = none := f1 rk (by
        rw [List.drop_eq_getElem_cons hlt, hrk]
        exact List.mem_cons_self)
      have row := M.row k rk he
      refine ⟨_, x1.keep fr.1 brk row, ?_, fun r hr2 => ?_, fun i r hi e => ?_⟩
      · rw [upd_ne (Ne.symm fr.2)]
        exact b1
      · have ne : r ≠ rk := by
          intro z
          subst z
          obtain ⟨j, hj⟩ := List.mem_iff_getElem?.mp hr2
          rw [List.getElem?_drop] at hj
          have := nd_ix M.nd hj he
          omega
        rw [upd_ne ne]
        refine f1 r ?_
        rw [List.drop_eq_getElem_cons hlt]
        exact List.mem_cons_of_mem _ hr2
      · by_cases c : i = k
        · subst c
          rw [he] at e
          cases e
          refine ⟨rk, _, rfl, upd_same, ?_⟩
          exact All2.map fun c _ => rfl
        · exact mono_lst mono_nat _ _ _ _ (Same.new brk) (g1 i r (by omega) e)
  obtain ⟨B1, x1, b1, _, g1⟩ := key rows.length (Nat.le_refl _)
  refine ⟨_, x1.keep hD b1 M.d, D, _, rfl, upd_same, ?_⟩
  refine ⟨by rw [List.length_map, List.length_map, List.length_range, M.len], fun i a b ha hb2 => ?_⟩
  rw [List.getElem?_map] at ha hb2
  cases e : rows[i]? with
  | none =>
    rw [e] at ha
    cases ha
  | some r =>
    rw [e] at ha
    have hi := (List.getElem?_eq_some_iff.mp e).1
    have hin : i < n := by rw [← M.len]; exact hi
    rw [List.getElem?_range hin] at hb2
    cases ha
    cases hb2
    exact mono_lst mono_nat _ _ _ _ (Same.new b1) (g1 i r hi e)
theorem ok_kept_table (T : Txt K mg) : DOk P w K mg base CX0 1 (gad K "kept_table") p_kept_table (spTable K) := by
  refine ok_of_kept_table T (fun vs H Q E h => ?_) fun vs H Q E h => ?_
  · obtain ⟨B, ov, nv, old, new, rfl, _⟩ := h
    rfl
  obtain ⟨B, ov, nv, old, new, rfl, hB, ⟨oa, ovs, rfl, o1, o2⟩, ⟨na, nvs, rfl, n1, n2⟩, lo, ln, k⟩ := h
  refine s_seq (s_asgN ?_)
  -- found = [[0] * (len(new) + 1) for turn in range(len(old) + 1)]
  have hO : ∀ {H1 : Hp}, Same H H1 → H1 oa = some (.lst ovs) := fun s => s _ _ (hB _ _ o1)
  have hN : ∀ {H1 : Hp}, Same H H1 → H1 na = some (.lst nvs) := fun s => s _ _ (hB _ _ n1)
  refine s_lcN (n := old.length + 1) (fun Q q => al_cons (vl_add (vl_lenL (vl_var rfl) (SqL.of (hO (Same.refl H)))) vl_c) al_nil _ (by rw [o2.1, Int.natCast_add] at *; exact q)) (by omega) (fun D i H' => ∃ rows, Ext B H B H' ∧ Mat H H' D rows i (new.length + 1) (fun _ _ => 0) ∧ ∀ r ∈ rows, B r = none) (fun D hD => ?_) (fun _ => rfl) (fun D i H' hD hi p => ?_) (fun D H1 hD p => ?_)
  · exact ⟨[], (Ext.refl hB).tmp hD, ⟨upd_same, rfl, .nil, fun r h => (nomatch h), fun i r h => by simp at h⟩, fun r h => (nomatch h)⟩
  · obtain ⟨rows, x, M, br⟩ := p
    have bD : B D = none := hB.free hD
    refine tl_yes _ (iteT ?_)
    refine s_op (s_lst (al_cons vl_c al_nil) (by show 1 ≤ 1000; decide) fun q hq => ?_)
    refine vl_add (vl_lenL (vl_var rfl) (SqL.of (hN (x.h.trans (Same.new hq))))) vl_c _ ⟨q, _, _, rfl, rfl, upd_same, by rw [n2.1]; omega, by rw [n2.1]; omega, ?_, fun r hr => ?_⟩
    · have : ((nvs.length : Nat) + (1 : Int)).toNat = new.length + 1 := by rw [n2.1]; omega
      rw [this]
      exact szl (by show 1 * (new.length + 1) ≤ _; omega)
    have e1 : ((nvs.length : Nat) + (1 : Int)).toNat = new.length + 1 := by rw [n2.1]; omega
    have e2 : (List.replicate ((nvs.length : Nat) + (1 : Int)).toNat [V.int 0]).flatten = (List.range (new.length + 1)).map fun j => V.int ((0 : Nat) : Int) := by
      rw [e1]
      generalize new.length + 1 = m
      induction m with
      | zero => rfl
      | succ m ih =>
        rw [List.replicate_succ', List.flatten_append, ih, List.range_succ, List.map_append]
        rfl
    rw [e2]
    have hD1 : (upd (upd H' q (.lst [V.int 0])) r (.lst ((List.range (new.length + 1)).map fun j => V.int ((0 : Nat) : Int)))) D = some (.lst (rows.map V.ref)) := Same.new hr _ _ (Same.new hq _ _ M.d)
    have rH : H' r = none := (Same.new hq).free hr
    have rD : r ≠ D := fun z => by
      rw [z, M.d] at rH
      cases rH
    have rR : r ∉ rows := fun hm => by
      obtain ⟨j, hj⟩ := List.mem_iff_getElem?.mp hm
      rw [M.row j r hj] at rH
      cases rH
    refine ⟨_, hD1, szlt (by rw [List.length_map, M.len]; omega), rows ++ [r], (((x.tmp hq).tmp hr).mut hD bD), ⟨?_, ?_, ?_, ?_, ?_⟩, ?_⟩
    · rw [upd_same, List.map_append]
      rfl
    · rw [List.length_append, M.len]
      rfl
    · rw [List.nodup_append]
      exact ⟨M.nd, by simp, fun a ha b hb => by
        rw [List.mem_singleton.mp hb]
        rintro rfl
        exact rR ha⟩
    · intro z hz
      rcases List.mem_append.mp hz with hz | hz
      · exact M.fresh z hz
      · rw [List.mem_singleton.mp hz]
        exact ⟨x.h.free rH, rD⟩
    · intro j z hz
      have zD : z ≠ D := by
        have hm := List.mem_of_getElem? hz
        rcases List.mem_append.mp hm with hm | hm
        · exact (M.fresh z hm).2
        · rw [List.mem_singleton.mp hm]
          exact rD
      rw [upd_ne zD]
      by_cases c : j < rows.length
      · rw [List.getElem?_append_left c] at hz
        exact Same.new hr _ _ (Same.new hq _ _ (M.row j z hz))
      · have hl := (List.getElem?_eq_some_iff.mp hz).1
        rw [List.length_append, List.length_singleton] at hl
        have e : j = rows.length := by omega
        subst e
        rw [List.getElem?_append_right (Nat.le_refl _)] at hz
        simp at hz
        rw [← hz, upd_same]
    · intro z hz
      rcases List.mem_append.mp hz with hz | hz
      · exact br z hz
      · rw [List.mem_singleton.mp hz]
        exact (hB.trans x.h).free rH
  · obtain ⟨rows, x1, M1, br⟩ := p
    have bD : B D = none := hB.free hD
    have M2 : Mat H H1 D rows (old.length + 1) (new.length + 1) (part old new 0 0) := M1.congr fun i j hi hj => by
      unfold part
      split
      · rename_i c
        rcases c with c | ⟨_, c⟩
        · have e : i = old.length := by omega
          rw [e, tab_end1]
        · rw [tab_end2 (by omega)]
      · rfl
    refine s_seq (forC (n := old.length) (fun Q q => al_cons (vl_sub (vl_lenL (vl_var rfl) (SqL.of (hO x1.h))) vl_c) (al_cons (vl_neg vl_c) (al_cons (vl_neg vl_c) al_nil)) _ (by rw [o2.1]; exact q)) (by omega)
      (fun t σ H' => ∃ v3 v4, σ = [some (.ref oa), some (.ref na), some (.ref D), v3, v4, none] ∧ Ext B H B H' ∧ Mat H H' D rows (old.length + 1) (new.length + 1) (part old new t 0)) ⟨none, none, rfl, x1, M2⟩ ?_ ?_)
    · rintro t σ H' ht ⟨v3, v4, rfl, x, M⟩
      -- the inner loop: row i = old.length - 1 - t
      refine forC (n := new.length) (fun Q q => al_cons (vl_sub (vl_lenL (vl_var rfl) (SqL.of (hN x.h))) vl_c) (al_cons (vl_neg vl_c) (al_cons (vl_neg vl_c) al_nil)) _ (by rw [n2.1]; exact q)) (by omega)
        (fun u σ H' => ∃ v4, σ = [some (.ref oa), some (.ref na), some (.ref D), some (.int ((old.length - 1 - t : Nat) : Int)), v4, none] ∧ Ext B H B H' ∧ Mat H H' D rows (old.length + 1) (new.length + 1) (part old new t u)) ⟨v4, rfl, x, M⟩ ?_ ?_
      · rintro u σ H' hu ⟨v4, rfl, x, M⟩
        generalize hi : old.length - 1 - t = i
        have hil : i < old.length := by omega
        generalize hj : new.length - 1 - u = j
        have hjl : j < new.length := by omega
        have hox : old[i]? = some old[i] := List.getElem?_eq_getElem hil
        have hny : new[j]? = some new[j] := List.getElem?_eq_getElem hjl
        obtain ⟨xv, hxv, rx⟩ := o2.get' hox
        obtain ⟨yv, hyv, ry⟩ := n2.get' hny
        have hr0 : i < rows.length := by rw [M.len]; omega
        have hr1 : i + 1 < rows.length := by rw [M.len]; omega
        have e0 : rows[i]? = some rows[i] := List.getElem?_eq_getElem hr0
        have e1 : rows[i + 1]? = some rows[i + 1] := List.getElem?_eq_getElem hr1
        generalize rows[i] = r0 at e0
        generalize rows[i + 1] = r1 at e1
        have row0 := M.row i r0 e0
        have row1 := M.row (i + 1) r1 e1
        have at0 : ∀ j', j' < new.length + 1 → ((List.range (new.length + 1)).map fun j => V.int (part old new t u i j : Nat))[j']? = some (.int (part old new t u i j' : Nat)) := fun j' h => by
          rw [List.getElem?_map, List.getElem?_range h]
          rfl
        have at1 : ∀ j', j' < new.length + 1 → ((List.range (new.length + 1)).map fun j => V.int (part old new t u (i + 1) j : Nat))[j']? = some (.int (part old new t u (i + 1) j' : Nat)) := fun j' h => by
          rw [List.getElem?_map, List.getElem?_range h]
          rfl
        have dm0 : (rows.map V.ref)[i]? = some (.ref r0) := by rw [List.getElem?_map, e0]; rfl
        have dm1 : (rows.map V.ref)[i + 1]? = some (.ref r1) := by rw [List.getElem?_map, e1]; rfl
        have p10 : ∀ j', part old new t u (i + 1) j' = tab old new (i + 1) j' := fun j' => by
          unfold part
          rw [if_pos (.inl (by omega))]
        have p01 : part old new t u i (j + 1) = tab old new i (j + 1) := by
          unfold part
          rw [if_pos (.inr ⟨by omega, by omega⟩)]
        have after : ∀ v : Nat, v = tab old new i j → Mat H (upd H' r0 (.lst (((List.range (new.length + 1)).map fun j' => V.int (part old new t u i j' : Nat)).set j (.int (v : Int))))) D rows (old.length + 1) (new.length + 1) (part old new t (u + 1)) := fun v hv =>
          (M.set e0 (v := v) (show j < new.length + 1 by omega)).congr fun i' j' hi' hj' => by
            unfold part
            by_cases c : i' = i ∧ j' = j
            · rw [if_pos c, if_pos (.inr ⟨by omega, by omega⟩), c.1, c.2, hv]
            · rw [if_neg c]
              by_cases d : old.length ≤ i' + t ∨ (old.length = i' + t + 1 ∧ new.length ≤ j' + u)
              · rw [if_pos d, if_pos (d.imp id fun q => ⟨q.1, by omega⟩)]
              · rw [if_neg d, if_neg (fun q => d (q.imp id fun q => ⟨q.1, by
                  by_cases z : j' = j
                  · exact absurd ⟨by omega, z⟩ c
                  · omega⟩))]
        have fr0 := M.fresh r0 (List.mem_of_getElem? e0)
        have fin : ∀ v : Nat, v = tab old new i j → ∀ σ4, σ4 = [some (.ref oa), some (.ref na), some (.ref D), some (V.int (i : Int)), some (V.int (j : Int)), none] →
            ∃ v4, σ4 = [some (V.ref oa), some (.ref na), some (.ref D), some (V.int (i : Int)), v4, none] ∧ Ext B H B (upd H' r0 (.lst (((List.range (new.length + 1)).map fun j' => V.int (part old new t u i j' : Nat)).set j (.int (v : Int))))) ∧
              Mat H (upd H' r0 (.lst (((List.range (new.length + 1)).map fun j' => V.int (part old new t u i j' : Nat)).set j (.int (v : Int))))) D rows (old.length + 1) (new.length + 1) (part old new t (u + 1)) :=
          fun v hv σ4 e4 => ⟨_, e4, x.mut fr0.1 (hB.free fr0.1), after v hv⟩
        have ixj : ∀ (xs : List V), xs.length = new.length + 1 → ixN xs.length (j : Int) = some j := fun xs hx => by
          unfold ixN
          rw [hx, if_pos (by omega), if_pos (by omega)]
          rfl
        have hlen : ((List.range (new.length + 1)).map fun j => V.int (part old new t u i j : Nat)).length = new.length + 1 := by rw [List.length_map, List.length_range]
        refine s_if (tl_test (vl_eqT (vl_ixL (vl_var rfl) (vl_var rfl) (SqL.of (hO x.h)) hxv) (vl_ixL (vl_var rfl) (vl_var rfl) (SqL.of (hN x.h)) hyv) rx ry (hB.trans x.h))) (fun hb => ?_) fun hb => ?_
        · have hxy : old[i] = new[j] := lineI_inj (of_decide_eq_true hb)
          refine vl_add vl_c (vl_ixL (vl_ixL (vl_var rfl) (vl_add (n := i) (m := 1) (vl_var rfl) vl_c) (SqL.of M.d) dm1) (vl_add (n := j) (m := 1) (vl_var rfl) vl_c) (SqL.of row1) (at1 (j + 1) (by omega))) _ ?_
          refine vl_ixL (vl_var rfl) (vl_var rfl) (SqL.of M.d) dm0 _ (vl_var rfl _ ⟨r0, _, (j : Int), j, rfl, rfl, row0, ixj _ hlen, ?_⟩)
          have ev : (1 : Int) + ((part old new t u (i + 1) (j + 1) : Nat) : Int) = ((1 + tab old new (i + 1) (j + 1) : Nat) : Int) := by rw [p10]; omega
          rw [ev]
          exact fin _ (by rw [tab_step hox hny, if_pos hxy]) _ rfl
        · have hxy : ¬ old[i] = new[j] := fun q => of_decide_eq_false hb (by rw [q])
          refine vl_max (vl_ixL (vl_ixL (vl_var rfl) (vl_add (n := i) (m := 1) (vl_var rfl) vl_c) (SqL.of M.d) dm1) (vl_var rfl) (SqL.of row1) (at1 j (by omega)))
            (vl_ixL (vl_ixL (vl_var rfl) (vl_var rfl) (SqL.of M.d) dm0) (vl_add (n := j) (m := 1) (vl_var rfl) vl_c) (SqL.of row0) (at0 (j + 1) (by omega))) _ ?_
          refine vl_ixL (vl_var rfl) (vl_var rfl) (SqL.of M.d) dm0 _ (vl_var rfl _ ⟨r0, _, (j : Int), j, rfl, rfl, row0, ixj _ hlen, ?_⟩)
          have ev : (if ((part old new t u i (j + 1) : Nat) : Int) > ((part old new t u (i + 1) j : Nat) : Int) then ((part old new t u i (j + 1) : Nat) : Int) else ((part old new t u (i + 1) j : Nat) : Int)) = ((max (tab old new (i + 1) j) (tab old new i (j + 1)) : Nat) : Int) := by
            rw [p10, p01]
            split <;> omega
          rw [ev]
          exact fin _ (by rw [tab_step hox hny, if_neg hxy]) _ rfl
      · rintro σ H' ⟨v4, rfl, x, M⟩
        refine ⟨_, v4, rfl, x, M.congr fun i' j' hi' hj' => ?_⟩
        unfold part
        by_cases c : old.length ≤ i' + t
        · rw [if_pos (.inl c), if_pos (.inl (by omega))]
        · by_cases d : old.length = i' + t + 1
          · rw [if_pos (.inr ⟨d, by omega⟩), if_pos (.inl (by omega))]
          · rw [if_neg (fun q => by rcases q with q | q <;> omega)]
            by_cases e : old.length ≤ i' + (t + 1) ∨ (old.length = i' + (t + 1) + 1 ∧ new.length ≤ j' + 0)
            · rw [if_pos e, tab_end2 (by omega)]
            · rw [if_neg e]
    · rintro σ H' ⟨v3, v4, rfl, x, M⟩
      refine ⟨_, rfl, ?_⟩
      obtain ⟨B', x', r'⟩ := M.keep x hD bD br
      refine k _ _ _ x' ?_
      have e : tableOf old new = (List.range (old.length + 1)).map fun i => (List.range (new.length + 1)).map fun j => part old new old.length 0 i j := by
        unfold tableOf part
        refine List.map_congr_left fun i _ => List.map_congr_left fun j _ => ?_
        rw [if_pos (.inl (by omega))]
      rw [e]
      exact r'
end
end Lg

-- ==== LgP5 ====
set_option Elab.async false
set_option linter.all false
set_option maxRecDepth 100000
set_option maxHeartbeats 4000000
/-! LgP5: the difference of two rows of lines. -/
namespace Lg
open PySem PySem.Spec PyProof.Rows L2
open Gf11 (Line Position Change Hunk State)
section
variable {P : Program} {w : World} {K : PySem.W.Frag} {mg : Str → Option Value} {base : Heap}

/-- rows that may change, at rows, in the list at D -/
structure Rows (H0 H : Hp) (D : Addr) (rows : List Addr) (n : Nat) (f : Nat → List V) : Prop where
  d : H D = some (.lst (rows.map V.ref))
  len : rows.length = n
  nd : rows.Nodup
  fresh : ∀ r ∈ rows, H0 r = none ∧ r ≠ D
  row : ∀ i r, rows[i]? = some r → H r = some (.lst (f i))
theorem Rows.ext {H0 H H2 : Hp} {D : Addr} {rows : List Addr} {n : Nat} {f : Nat → List V} (M : Rows H0 H D rows n f) (s : Same H H2) : Rows H0 H2 D rows n f :=
  ⟨s _ _ M.d, M.len, M.nd, M.fresh, fun i r hr => s _ _ (M.row i r hr)⟩
/-- another thing changes -/
theorem Rows.off {H0 H : Hp} {D : Addr} {rows : List Addr} {n : Nat} {f : Nat → List V} {p : Addr} {o : HO} (M : Rows H0 H D rows n f) (h1 : p ≠ D) (h2 : p ∉ rows) : Rows H0 (upd H p o) D rows n f :=
  ⟨(upd_ne (Ne.symm h1)).trans M.d, M.len, M.nd, M.fresh, fun i r hr => (upd_ne (fun (z : r = p) => h2 (z ▸ List.mem_of_getElem? hr))).trans (M.row i r hr)⟩
theorem Rows.set {H0 H : Hp} {D : Addr} {rows : List Addr} {n : Nat} {f : Nat → List V} (M : Rows H0 H D rows n f) {i : Nat} {r : Addr} {l : List V} (hr : rows[i]? = some r) :
    Rows H0 (upd H r (.lst l)) D rows n fun i' => if i' = i then l else f i' := by
  have rm := M.fresh r (List.mem_of_getElem? hr)
  refine ⟨(upd_ne (Ne.symm rm.2)).trans M.d, M.len, M.nd, M.fresh, fun i' r' hr' => ?_⟩
  by_cases c : i' = i
  · subst c
    rw [hr] at hr'
    cases hr'
    rw [upd_same, if_pos rfl]
  · have ne : r' ≠ r := fun z => c (nd_ix M.nd (z ▸ hr') hr)
    rw [upd_ne ne, M.row i' r' hr', if_neg c]
/-- a new row behind the others -/
theorem Rows.snoc {H0 H : Hp} {D : Addr} {rows : List Addr} {n : Nat} {f : Nat → List V} {r : Addr} {l : List V} (M : Rows H0 H D rows n f) (s : Same H0 H) (hr : H r = none) (hf : f n = l) :
    Rows H0 (upd (upd H r (.lst l)) D (.lst (rows.map V.ref ++ [.ref r]))) D (rows ++ [r]) (n + 1) f := by
  have rD : r ≠ D := fun z => by
    rw [z, M.d] at hr
    cases hr
  have rR : r ∉ rows := fun hm => by
    obtain ⟨j, hj⟩ := List.mem_iff_getElem?.mp hm
    rw [M.row j r hj] at hr
    cases hr
  refine ⟨?_, ?_, ?_, ?_, ?_⟩
  · rw [upd_same, List.map_append]
    rfl
  · rw [List.length_append, M.len]
    rfl
  · rw [List.nodup_append]
    exact ⟨M.nd, by simp, fun a ha b hb => by
      rw [List.mem_singleton.mp hb]
      rintro rfl
      exact rR ha⟩
  · intro z hz
    rcases List.mem_append.mp hz with hz | hz
    · exact M.fresh z hz
    · rw [List.mem_singleton.mp hz]
      exact ⟨s.free hr, rD⟩
  · intro j z hz
    have zD : z ≠ D := by
      have hm := List.mem_of_getElem? hz
      rcases List.mem_append.mp hm with hm | hm
      · exact (M.fresh z hm).2
      · rw [List.mem_singleton.mp hm]
        exact rD
    rw [upd_ne zD]
    by_cases c : j < rows.length
    · rw [List.getElem?_append_left c] at hz
      exact Same.new hr _ _ (M.row j z hz)
    · have hl := (List.getElem?_eq_some_iff.mp hz).1
      rw [List.length_append, List.length_singleton] at hl
      have e : j = rows.length := by omega
      subst e
      rw [List.getElem?_append_right (Nat.le_refl _)] at hz
      simp at hz
      rw [← hz, upd_same, M.len, hf]
/-- freezing rows -/
theorem Rows.keep {β : Type} {R : Rp β} {H0 H B0 B : Hp} {D : Addr} {rows : List Addr} {n : Nat} {f : Nat → List V} {g : Nat → List β} (M : Rows H0 H D rows n f) (mono : Mono R) (x : Ext B0 H0 B H) (hD : H0 D = none) (hb : B D = none) (hr : ∀ r ∈ rows, B r = none)
    (hg : ∀ i, i < n → All2 (R B) (f i) (g i)) : ∃ B', Ext B0 H0 B' H ∧ Same B B' ∧ LstV (LstV R) B' (.ref D) ((List.range n).map g) ∧ ∀ a, B a = none → a ≠ D → a ∉ rows → B' a = none := by
  have key : ∀ k, k ≤ rows.length → ∃ B', Ext B0 H0 B' H ∧ Same B B' ∧ B' D = none ∧ (∀ r ∈ rows.drop k, B' r = none) ∧ (∀ i r, i < k → rows[i]? = some r → LstV R B' (.ref r) (g i)) ∧ ∀ a, B a = none → a ≠ D → a ∉ rows → B' a = none := by
    intro k
    induction k with
    | zero => intro _; exact ⟨B, x, Same.refl B, hb, hr, fun i r h => absurd h (Nat.not_lt_zero _), fun a h _ _ => h⟩
    | succ k ih =>
      intro hk
      obtain ⟨B1, x1, s1, b1, f1, g1, n1⟩ := ih (by omega)
      have hlt : k < rows.length := hk
      have he : rows[k]? = some rows[k] := List.getElem?_eq_getElem hlt
      generalize hrk : rows[k] = rk at he
      have mem : rk ∈ rows := List.mem_of_getElem? he
      have fr := M.fresh rk mem
      have brk : B1 rk = none := f1 rk (by
        rw [List.drop_eq_getElem_cons hlt, hrk]
        exact List.mem_cons_self)
      have row := M.row k rk he
      refine ⟨_, x1.keep fr.1 brk row, s1.trans (Same.new brk), ?_, fun r hr2 => ?_, fun i r hi e => ?_, fun a ha h1 h2 => ?_⟩
      · rw [upd_ne (Ne.symm fr.2)]
        exact b1
      · have ne : r ≠ rk := by
          intro z
          subst z
          obtain ⟨j, hj⟩ := List.mem_iff_getElem?.mp hr2
          rw [List.getElem?_drop] at hj
          have := nd_ix M.nd hj he
          omega
        rw [upd_ne ne]
        refine f1 r ?_
        rw [List.drop_eq_getElem_cons hlt]
        exact List.mem_cons_of_mem _ hr2
      · by_cases c : i = k
        · subst c
          rw [he] at e
          cases e
          refine ⟨rk, _, rfl, upd_same, ?_⟩
          exact (hg i (by rw [← M.len]; exact hlt)).mono fun a b r => mono _ _ _ _ (s1.trans (Same.new brk)) r
        · exact mono_lst mono _ _ _ _ (Same.new brk) (g1 i r (by omega) e)
      · rw [upd_ne (fun (z : a = rk) => h2 (z ▸ mem))]
        exact n1 a ha h1 h2
  obtain ⟨B1, x1, s1, b1, _, g1, n1⟩ := key rows.length (Nat.le_refl _)
  refine ⟨_, x1.keep hD b1 M.d, s1.trans (Same.new b1), ⟨D, _, rfl, upd_same, ?_⟩, fun a ha h1 h2 => ?_⟩
  · refine ⟨by rw [List.length_map, List.length_map, List.length_range, M.len], fun i a b ha hb2 => ?_⟩
    rw [List.getElem?_map] at ha hb2
    cases e : rows[i]? with
    | none =>
      rw [e] at ha
      cases ha
    | some r =>
      rw [e] at ha
      have hi := (List.getElem?_eq_some_iff.mp e).1
      have hin : i < n := by rw [← M.len]; exact hi
      rw [List.getElem?_range hin] at hb2
      cases ha
      cases hb2
      exact mono_lst mono _ _ _ _ (Same.new b1) (g1 i r hi e)
  · rw [upd_ne h1]
    exact n1 a ha h1 h2

theorem s_fldS {ta tv : TE} {f : Str} {D : Ends} {σ : L2.St} {H : Hp} (h : tv σ H fun y H1 => ta σ H1 fun x H2 => ∃ a C dx fs, x = .ref a ∧ H2 a = some (.ins C dx fs) ∧ Cls K C ∧ NoAttr K C f ∧ fs.length < 1000 ∧ D.nx σ (upd H2 a (.ins C dx (putF f y fs)))) : sFld K ta tv f D σ H := h
theorem s_asg {te : TE} {g : TG} {D : Ends} {σ : L2.St} {H : Hp} (h : te σ H fun x H1 => g x σ H1 D.nx) : tAsg te g D σ H := h
theorem s_par {i j : Nat} {ta : TA} {D : Ends} {σ : L2.St} {H : Hp} (h : ta σ H fun vs H1 => ∃ v w, vs = [v, w] ∧ D.nx ((σ.set i (some v)).set j (some w)) H1) : tPar i j ta D σ H := h
theorem s_par3 {i j l : Nat} {ta : TA} {D : Ends} {σ : L2.St} {H : Hp} (h : ta σ H fun vs H1 => ∃ u v w, vs = [u, v, w] ∧ D.nx (((σ.set i (some u)).set j (some v)).set l (some w)) H1) : tPar3 i j l ta D σ H := h

/-! ### Difference.__init__ -/
def spDiffInit (K : PySem.W.Frag) : Sp := fun vs H Q _ => ∃ (B : Hp) (p dx : Addr) (n : Nat), vs = [.ref p, .int (n : Int)] ∧ Same B H ∧ H p = some (.ins (gad K "Difference") dx []) ∧ B p = none ∧ n ≤ 1000 ∧
  ∀ H' da ia rows, ExtS p p B H B H' → H' p = some (.ins (gad K "Difference") dx (fD (.ref da) (.ref ia))) → H' da = some (.lst []) → H da = none → H ia = none → da ≠ ia → da ∉ rows → Rows H H' ia rows (n + 1) (fun _ => []) → Q .non H'
theorem ok_Difference_init (T : Txt K mg) : DOk P w K mg base CX0 1 (mad K "Difference" "__init__") p_Difference_init (spDiffInit K) := by
  refine ok_of_Difference_init T (fun vs H Q E h => ?_) fun vs H Q E h => ?_
  · obtain ⟨B, p, dx, n, rfl, _⟩ := h
    rfl
  obtain ⟨B, p, dx, n, rfl, hB, hp, bp, hn, k⟩ := h
  refine s_seq ⟨by show 0 ≤ sizeLine; exact Nat.zero_le _, fun da hda => ?_⟩
  have dp : p ≠ da := fun z => by
    rw [← z, hp] at hda
    cases hda
  refine ⟨_, rfl, p, _, dx, [], rfl, (upd_ne dp).trans hp, T.cl_Difference, T.a_Difference_deleted, (by show 0 < 1000; decide), ?_⟩
  have x0 : ExtS p p B H B (upd (upd H da (.lst [])) p (.ins (gad K "Difference") dx (putF "deleted" (.ref da) []))) := ((ExtS.refl hB).tmp hda).put (.inl rfl) bp
  generalize hH1 : upd (upd H da (.lst [])) p (.ins (gad K "Difference") dx (putF "deleted" (.ref da) [])) = H1 at x0
  have h1p : H1 p = some (.ins (gad K "Difference") dx (putF "deleted" (.ref da) [])) := by rw [← hH1, upd_same]
  have h1d : H1 da = some (.lst []) := by rw [← hH1, upd_ne (Ne.symm dp), upd_same]
  have old : ∀ a, H1 a = none → H a = none := fun a h => by
    by_cases c : a = p
    · rw [c, h1p] at h
      cases h
    · cases q : H a with
      | none => rfl
      | some o => exact absurd h (by rw [x0.h a o q c c]; exact fun z => nomatch z)
  dsimp only
  refine s_fldS ?_
  refine s_lcN (n := n + 1) (fun Q q => al_cons (vl_add (vl_var rfl) vl_c) al_nil _ (by exact q)) (by omega)
    (fun D i H' => ∃ rows, ExtS p p B H B H' ∧ (∀ a o, H1 a = some o → a ≠ D → H' a = some o) ∧ da ∉ rows ∧ Rows H H' D rows i (fun _ => [])) (fun D hD => ?_) (fun _ => rfl) (fun D i H' hD hi q => ?_) (fun D H' hD q => ?_)
  · have e := x0.tmp (o := .lst []) hD
    exact ⟨[], e, fun a o h _ => Same.new hD a o h, (fun z => nomatch z), ⟨upd_same, rfl, .nil, fun r h => (nomatch h), fun i r h => by simp at h⟩⟩
  · obtain ⟨rows, e, keep, nr, M⟩ := q
    refine tl_yes _ (iteT ⟨Nat.zero_le _, fun r hr => ?_⟩)
    have hD0 : H D = none := old D hD
    have bD : B D = none := hB.free hD0
    have rd : r ≠ da := fun z => by
      rw [z, keep da _ h1d (fun y => by rw [← y, h1d] at hD; cases hD)] at hr
      cases hr
    have pr : H' p = some _ := keep p _ h1p (fun y => by rw [← y, h1p] at hD; cases hD)
    have rH : H r = none := by
      by_cases c : r = p
      · rw [c, pr] at hr
        cases hr
      · cases q : H r with
        | none => rfl
        | some o => exact absurd hr (by rw [e.h r o q c c]; exact fun z => nomatch z)
    have dD : da ≠ D := fun y => by rw [← y, h1d] at hD; cases hD
    refine ⟨_, Same.new hr _ _ M.d, szlt (by rw [List.length_map, M.len]; omega), rows ++ [r], (e.tmp hr).mut hD0 bD, fun a o h ne => ?_, fun z => ?_, ?_⟩
    · rw [upd_ne ne]
      exact Same.new hr a o (keep a o h ne)
    · rcases List.mem_append.mp z with z | z
      · exact nr z
      · exact rd (List.mem_singleton.mp z).symm
    · refine ⟨?_, ?_, ?_, ?_, ?_⟩
      · rw [upd_same, List.map_append]
        rfl
      · rw [List.length_append, M.len]
        rfl
      · rw [List.nodup_append]
        exact ⟨M.nd, by simp, fun a ha b hb => by
          rw [List.mem_singleton.mp hb]
          rintro rfl
          obtain ⟨j, hj⟩ := List.mem_iff_getElem?.mp ha
          rw [M.row j _ hj] at hr
          cases hr⟩
      · intro z hz
        rcases List.mem_append.mp hz with hz | hz
        · exact M.fresh z hz
        · rw [List.mem_singleton.mp hz]
          refine ⟨rH, fun y => ?_⟩
          rw [y, M.d] at hr
          cases hr
      · intro j z hz
        have zD : z ≠ D := by
          have hm := List.mem_of_getElem? hz
          rcases List.mem_append.mp hm with hm | hm
          · exact (M.fresh z hm).2
          · rw [List.mem_singleton.mp hm]
            rintro rfl
            rw [M.d] at hr
            cases hr
        rw [upd_ne zD]
        by_cases c : j < rows.length
        · rw [List.getElem?_append_left c] at hz
          exact Same.new hr _ _ (M.row j z hz)
        · have hl := (List.getElem?_eq_some_iff.mp hz).1
          rw [List.length_append, List.length_singleton] at hl
          have e : j = rows.length := by omega
          subst e
          rw [List.getElem?_append_right (Nat.le_refl _)] at hz
          simp at hz
          rw [← hz, upd_same]
  · obtain ⟨rows, e, keep, nr, M⟩ := q
    have Dp : p ≠ D := fun y => by rw [← y, h1p] at hD; cases hD
    have dD : da ≠ D := fun y => by rw [← y, h1d] at hD; cases hD
    refine ⟨_, rfl, p, _, dx, _, rfl, keep p _ h1p Dp, T.cl_Difference, T.a_Difference_inserted, (by show 1 < 1000; decide), ?_⟩
    have e0 : putF "inserted" (.ref D) (putF "deleted" (.ref da) []) = fD (.ref da) (.ref D) := by
      have n1 : ¬ ("deleted" : Str) = "inserted" := by decide +kernel
      show putF "inserted" (.ref D) [("deleted", .ref da)] = _
      rw [put_past n1]
      rfl
    rw [e0]
    have pr : p ∉ rows := fun z => by
      have := (M.fresh p z).1
      rw [hp] at this
      cases this
    exact k _ da D rows (e.put (.inl rfl) bp) upd_same ((upd_ne (Ne.symm dp)).trans (keep da _ h1d dD)) hda (old D hD) dD nr (M.off Dp pr)
end
end Lg

-- ==== LgP6 ====
set_option Elab.async false
set_option linter.all false
set_option maxRecDepth 100000
set_option maxHeartbeats 4000000
/-! LgP6: difference_of, written_change. -/
namespace Lg
open PySem PySem.Spec PyProof.Rows L2
open Gf11 (Line Position Change Hunk State)
section
variable {P : Program} {w : World} {K : PySem.W.Frag} {mg : Str → Option Value} {base : Heap}

theorem ins_next {done : Nat → List Line} {i : Nat} {es : List Gf11.Edit} (h : done (i + 1) = []) : (List.range i).map done ++ headApp (done i) ([] :: insOf es) = (List.range (i + 1)).map done ++ headApp (done (i + 1)) (insOf es) := by
  rw [h, headApp_nil, List.range_succ, List.map_append, List.append_assoc]
  show _ ++ ((done i ++ []) :: insOf es) = _
  rw [List.append_nil]
  rfl
theorem ins_add {d : List Line} {y : Line} : ∀ {l : List (List Line)}, headApp d (headAdd y l) = headApp (d ++ [y]) l
  | [] => rfl
  | g :: gs => by
    show (d ++ (y :: g)) :: gs = ((d ++ [y]) ++ g) :: gs
    rw [List.append_assoc]
    rfl
theorem drop_at {α : Type} {l : List α} {i : Nat} {x : α} (h : l[i]? = some x) : l.drop i = x :: l.drop (i + 1) := by
  obtain ⟨h, e⟩ := List.getElem?_eq_some_iff.mp h
  rw [List.drop_eq_getElem_cons h, e]
def DiffV (K : PySem.W.Frag) (B : Hp) (v : V) (old new : List Line) : Prop := ∃ x dx dv iv, v = .ref x ∧ B x = some (.ins (gad K "Difference") dx (fD dv iv)) ∧ LstV NatV B dv (delOf 0 (df old new)) ∧ LstV (LstV (LineV K)) B iv (insOf (df old new))
def spDiff (K : PySem.W.Frag) : Sp := fun vs H Q _ => ∃ (B : Hp) (ov nv : V) (old new : List Line), vs = [ov, nv] ∧ Same B H ∧ LstV (LineV K) B ov old ∧ LstV (LineV K) B nv new ∧ old.length ≤ 1000 ∧ new.length ≤ 1000 ∧ Ret B H Q fun B' v => DiffV K B' v old new
theorem vl_tab {B H : Hp} {σ : L2.St} {te ti tj : TE} {tv : V} {old new : List Line} {i j : Nat} (h : LstV (LstV NatV) B tv (tableOf old new)) (s : Same B H) (h1 : Vl te σ H tv) (h2 : Vl ti σ H (.int (i : Int))) (h3 : Vl tj σ H (.int (j : Int))) (hi : i ≤ old.length) (hj : j ≤ new.length) :
    Vl (tOp (rIxL K) (tOp (rIxL K) te ti) tj) σ H (.int (tab old new i j : Nat)) := by
  obtain ⟨a, vs, rfl, ha, al⟩ := h
  have e1 : (tableOf old new)[i]? = some ((List.range (new.length + 1)).map fun j => tab old new i j) := by
    unfold tableOf
    rw [List.getElem?_map, List.getElem?_range (by omega)]
    rfl
  obtain ⟨rv, hr, ⟨r, rs, rfl, hra, ral⟩⟩ := al.get' e1
  have e2 : ((List.range (new.length + 1)).map fun j => tab old new i j)[j]? = some (tab old new i j) := by
    rw [List.getElem?_map, List.getElem?_range (by omega)]
    rfl
  obtain ⟨v, hv, rfl⟩ := ral.get' e2
  exact vl_ixL (vl_ixL h1 h2 (SqL.of (s _ _ ha)) hr) h3 (SqL.of (s _ _ hra)) hv
theorem Rows.rebase {H00 H0 H : Hp} {D : Addr} {rows : List Addr} {n : Nat} {f : Nat → List V} (M : Rows H0 H D rows n f) (h : ∀ r, H0 r = none → H00 r = none) : Rows H00 H D rows n f :=
  ⟨M.d, M.len, M.nd, fun r hr => ⟨h r (M.fresh r hr).1, (M.fresh r hr).2⟩, M.row⟩
theorem ok_difference_of (T : Txt K mg) : DOk P w K mg base CX0 3 (gad K "difference_of") p_difference_of (spDiff K) := by
  refine ok_of_difference_of T (ok_Difference_init T) (ok_kept_table T) (fun vs H Q E h => ?_) fun vs H Q E h => ?_
  · obtain ⟨B, ov, nv, old, new, rfl, _⟩ := h
    rfl
  obtain ⟨B, ov, nv, old, new, rfl, hB, ⟨oa, ovs, rfl, o1, o2⟩, ⟨na, nvs, rfl, n1, n2⟩, lo, ln, k⟩ := h
  refine s_seq ?_
  refine s_cons (s_call (al_cons (vl_var rfl) (al_cons (vl_var rfl) al_nil)) ⟨B, _, _, old, new, rfl, hB, ⟨oa, ovs, rfl, o1, o2⟩, ⟨na, nvs, rfl, n1, n2⟩, lo, ln, fun B1 H1 tv e1 rt => ?_⟩)
  have hO : ∀ {H1 : Hp}, Same H H1 → H1 oa = some (.lst ovs) := fun s => s _ _ (hB _ _ o1)
  have hN : ∀ {H1 : Hp}, Same H H1 → H1 na = some (.lst nvs) := fun s => s _ _ (hB _ _ n1)
  refine s_cons (s_make (vs := [.int (ovs.length : Nat)]) (al_cons (vl_lenL (vl_var rfl) (SqL.of (hO e1.h))) al_nil) fun x dx hx hdx dne => ?_)
  have ms := made_same (C := gad K "Difference") hx hdx e1.s
  have bx : B1 x = none := e1.s.free hx
  refine ⟨B1, x, dx, ovs.length, rfl, ms, upd_same, bx, by rw [o2.1]; exact lo, fun H2 da ia rows e2 hx2 hda d0 i0 dia nda M => ⟨rfl, ?_⟩⟩
  have e3 : Ext B1 H1 (upd B1 x _) H2 := made_ext hx hdx dne e1.s e2 hx2
  have e4 := e1.trans e3
  -- what was free behind the making was free before
  have back : ∀ r, (upd (upd H1 dx (.own x)) x (.ins (gad K "Difference") dx [])) r = none → H1 r = none ∧ r ≠ x := fun r hr => by
    have rx : r ≠ x := fun z => by
      rw [z, upd_same] at hr
      cases hr
    refine ⟨?_, rx⟩
    cases q : H1 r with
    | none => rfl
    | some o =>
      rw [upd_ne rx, upd_ne (ne_of_none q hdx), q] at hr
      cases hr
  have backH : ∀ r, (upd (upd H1 dx (.own x)) x (.ins (gad K "Difference") dx [])) r = none → H r = none := fun r hr => e1.h.free (back r hr).1
  have backB : ∀ r, (upd (upd H1 dx (.own x)) x (.ins (gad K "Difference") dx [])) r = none → (upd B1 x (.ins (gad K "Difference") dx (fD (.ref da) (.ref ia)))) r = none := fun r hr => by
    rw [upd_ne (back r hr).2]
    exact e1.s.free (back r hr).1
  generalize hB2 : upd B1 x (.ins (gad K "Difference") dx (fD (.ref da) (.ref ia))) = B2 at e3 e4 backB
  have bx2 : B2 x = some (.ins (gad K "Difference") dx (fD (.ref da) (.ref ia))) := by rw [← hB2, upd_same]
  have rt2 : LstV (LstV NatV) B2 tv (tableOf old new) := mono_lst (mono_lst mono_nat) _ _ _ _ e3.b rt
  have bda : B2 da = none := backB da d0
  have bia : B2 ia = none := backB ia i0
  have hda0 : H da = none := backH da d0
  have hia0 : H ia = none := backH ia i0
  have M' : Rows H H2 ia rows (old.length + 1) (fun _ => []) := by
    have := M.rebase backH
    rw [o2.1] at this
    exact this
  have brow : ∀ r ∈ rows, B2 r = none := fun r hr => backB r (M.fresh r hr).1
  clear M e2 ms e1 e3
  refine ⟨tv, .ref x, rfl, ?_⟩
  dsimp only
  refine s_seq ?_
  refine s_asg ?_
  refine s_tup (al_cons vl_c (al_cons vl_c al_nil)) (by show 2 ≤ 1000; decide) fun t ht => ?_
  refine g_two (SqT.of upd_same) ?_
  have tda : da ≠ t := fun z => by
    rw [z, ht] at hda
    cases hda
  dsimp only
  refine s_seq (s_while (fun m σ H' => ∃ (i j : Nat) (dels : List Nat) (done : Nat → List Line) (f : Nat → List V), m = (old.length - i) + (new.length - j) ∧ i ≤ old.length ∧ j ≤ new.length ∧
      σ = [some (.ref oa), some (.ref na), some tv, some (.ref x), some (.int (i : Int)), some (.int (j : Int))] ∧ Ext B H B2 H' ∧ H' da = some (.lst ((toI dels).map V.int)) ∧ Rows H H' ia rows (old.length + 1) f ∧
      (∀ g, All2 (LineV K B) (f g) (done g)) ∧ (∀ g, i < g → done g = []) ∧ (∀ g, (done g).length ≤ j) ∧ dels.length ≤ i ∧
      delOf 0 (df old new) = dels ++ delOf i (df (old.drop i) (new.drop j)) ∧ insOf (df old new) = (List.range i).map done ++ headApp (done i) (insOf (df (old.drop i) (new.drop j)))) (old.length + new.length) ?_ ?_)
  · refine ⟨0, 0, [], fun _ => [], fun _ => [], by omega, Nat.zero_le _, Nat.zero_le _, rfl, e4.tmp ht, ?_, M'.ext (Same.new ht), fun _ => All2.nil, fun _ _ => rfl, fun _ => Nat.zero_le _, Nat.zero_le _, rfl, ?_⟩
    · rw [upd_ne tda]
      exact hda
    · show _ = [] ++ headApp [] _
      rw [headApp_nil]
      rfl
  · rintro m σ H' ⟨i, j, dels, done, f, rfl, hi, hj, rfl, e, hd, R, al, em, lj, dl, E1, E2⟩
    have hxH : H' x = some (.ins (gad K "Difference") dx (fD (.ref da) (.ref ia))) := e.s _ _ bx2
    have lenO : Vl (tCB (rLen K) (tCons (tVar 0) tNil)) [some (.ref oa), some (.ref na), some tv, some (.ref x), some (.int (i : Int)), some (.int (j : Int))] H' (.int (old.length : Nat)) := by
      rw [← o2.1]
      exact vl_lenL (vl_var rfl) (SqL.of (hO e.h))
    have lenN : Vl (tCB (rLen K) (tCons (tVar 1) tNil)) [some (.ref oa), some (.ref na), some tv, some (.ref x), some (.int (i : Int)), some (.int (j : Int))] H' (.int (new.length : Nat)) := by
      rw [← n2.1]
      exact vl_lenL (vl_var rfl) (SqL.of (hN e.h))
    have tI := tl_test (vl_lt (vl_var (σ := [some (.ref oa), some (.ref na), some tv, some (.ref x), some (.int (i : Int)), some (.int (j : Int))]) (i := 4) (H := H') rfl) lenO)
    have tJ := tl_test (vl_lt (vl_var (σ := [some (.ref oa), some (.ref na), some tv, some (.ref x), some (.int (i : Int)), some (.int (j : Int))]) (i := 5) (H := H') rfl) lenN)
    refine ⟨_, tl_or tI fun _ => tJ, fun hb => ?_, fun hb => ?_⟩
    · have hor : i < old.length ∨ j < new.length := by
        rcases Bool.or_eq_true_iff.mp hb with q | q
        · exact .inl (by have := of_decide_eq_true q; omega)
        · exact .inr (by have := of_decide_eq_true q; omega)
      refine ⟨_, fun σ2 H2 z => z, ?_⟩
      -- one line of the old ones, one of the new ones
      have hox : ∀ (h : i < old.length), old[i]? = some old[i] := fun h => List.getElem?_eq_getElem h
      have hny : ∀ (h : j < new.length), new[j]? = some new[j] := fun h => List.getElem?_eq_getElem h
      refine s_if (tl_and tI (c := decide (∃ (h1 : i < old.length) (h2 : j < new.length), old[i] = new[j])) fun q1 => Tl.to (tl_and tJ (c := decide (∃ (h1 : i < old.length) (h2 : j < new.length), old[i] = new[j])) fun q2 => ?_) ?_) (fun hc => ?_) fun hc => ?_
      · have h1 : i < old.length := by have := of_decide_eq_true q1; omega
        have h2 : j < new.length := by have := of_decide_eq_true q2; omega
        obtain ⟨xv, hxv, rx⟩ := o2.get' (hox h1)
        obtain ⟨yv, hyv, ry⟩ := n2.get' (hny h2)
        refine Tl.to (tl_test (vl_eqT (vl_ixL (vl_var rfl) (vl_var rfl) (SqL.of (hO e.h)) hxv) (vl_ixL (vl_var rfl) (vl_var rfl) (SqL.of (hN e.h)) hyv) rx ry (hB.trans e.h))) ?_
        by_cases c : old[i] = new[j]
        · rw [decide_eq_true (by rw [c]), decide_eq_true ⟨h1, h2, c⟩]
        · rw [decide_eq_false (fun z => c (lineI_inj z)), decide_eq_false (fun ⟨_, _, z⟩ => c z)]
      · by_cases c : j < new.length
        · rw [decide_eq_true (show (j : Int) < (new.length : Nat) by omega), Bool.true_and]
        · rw [decide_eq_false (show ¬ (j : Int) < (new.length : Nat) by omega), Bool.false_and, decide_eq_false (fun ⟨_, z, _⟩ => c z)]
      · obtain ⟨q1, q2⟩ := Bool.and_eq_true_iff.mp hc
        obtain ⟨h1, h2, hxy⟩ := of_decide_eq_true q2
        refine al_cons (vl_add (vl_var rfl) vl_c) (al_cons (vl_add (vl_var rfl) vl_c) al_nil) _ ⟨_, _, rfl, ?_⟩
        have D1 := drop_at (hox h1)
        have D2 := drop_at (hny h2)
        have dk := df_keep (old.drop (i + 1)) (new.drop (j + 1)) hxy
        rw [D1, D2, dk] at E1 E2
        refine ⟨(old.length - (i + 1)) + (new.length - (j + 1)), by omega, i + 1, j + 1, dels, done, f, rfl, h1, h2, rfl, e, hd, R, al, fun g hg => em g (by omega), fun g => Nat.le_succ_of_le (lj g), by omega, E1, ?_⟩
        rw [E2]
        exact ins_next (em (i + 1) (by omega))
      · have hne : ∀ (h1 : i < old.length) (h2 : j < new.length), ¬ old[i] = new[j] := fun h1 h2 z => by
          rw [decide_eq_true (show (i : Int) < (old.length : Nat) by omega), decide_eq_true ⟨h1, h2, z⟩] at hc
          cases hc
        refine s_if (tl_and tI (c := decide (j = new.length ∨ tab old new i (j + 1) ≤ tab old new (i + 1) j)) fun q1 => Tl.to (tl_or (tl_test (vl_eqI (vl_var rfl) lenN)) (c := decide (tab old new i (j + 1) ≤ tab old new (i + 1) j)) fun q2 => ?_) ?_) (fun hc2 => ?_) fun hc2 => ?_
        · have h1 : i < old.length := by have := of_decide_eq_true q1; omega
          have h2 : ¬ (j : Int) = (new.length : Nat) := of_decide_eq_false q2
          refine Tl.to (tl_test (vl_ge (vl_tab (i := i + 1) (j := j) rt2 e.s (vl_var rfl) (vl_add (n := i) (m := 1) (vl_var rfl) vl_c) (vl_var rfl) h1 hj) (vl_tab (i := i) (j := j + 1) rt2 e.s (vl_var rfl) (vl_var rfl) (vl_add (n := j) (m := 1) (vl_var rfl) vl_c) hi (by omega)))) ?_
          by_cases c : tab old new i (j + 1) ≤ tab old new (i + 1) j
          · rw [decide_eq_true c, decide_eq_true (by omega)]
          · rw [decide_eq_false c, decide_eq_false (by omega)]
        · by_cases c : j = new.length
          · rw [decide_eq_true (show (j : Int) = (new.length : Nat) by omega), decide_eq_true (show j = new.length ∨ tab old new i (j + 1) ≤ tab old new (i + 1) j from .inl c), Bool.true_or]
          · rw [decide_eq_false (show ¬ (j : Int) = (new.length : Nat) by omega), Bool.false_or]
            by_cases d : tab old new i (j + 1) ≤ tab old new (i + 1) j
            · rw [decide_eq_true d, decide_eq_true (show j = new.length ∨ tab old new i (j + 1) ≤ tab old new (i + 1) j from .inr d)]
            · rw [decide_eq_false d, decide_eq_false (show ¬ (j = new.length ∨ tab old new i (j + 1) ≤ tab old new (i + 1) j) from fun z => z.elim c d)]
        · -- a line deleted
          obtain ⟨q1, q2⟩ := Bool.and_eq_true_iff.mp hc2
          have h1 : i < old.length := by have := of_decide_eq_true q1; omega
          have hq := of_decide_eq_true q2
          have D1 := drop_at (hox h1)
          have dd : df (old.drop i) (new.drop j) = .delete :: df (old.drop (i + 1)) (new.drop j) := by
            rcases hq with c | c
            · rw [D1, List.drop_eq_nil_of_le (show new.length ≤ j by omega)]
              exact df_cons_nil _ _
            · by_cases h2 : j < new.length
              · have D2 := drop_at (hny h2)
                unfold tab at c
                rw [D1, D2] at c ⊢
                exact df_delete _ _ (hne h1 h2) c
              · rw [D1, List.drop_eq_nil_of_le (show new.length ≤ j by omega)]
                exact df_cons_nil _ _
          rw [dd] at E1 E2
          refine s_seq (s_app (p := da) (vl_fld (vl_var rfl) hxH T.cl_Difference T.a_Difference_deleted fD_deleted) hd (vl_var rfl) (by rw [List.length_map, toI_len]; omega) ?_)
          refine s_aug rfl vl_c ?_
          refine ⟨(old.length - (i + 1)) + (new.length - j), by omega, i + 1, j, dels ++ [i], done, f, rfl, h1, hj, rfl, e.mut hda0 bda, ?_, R.off dia nda, al, fun g hg => em g (by omega), lj, by rw [List.length_append, List.length_singleton]; omega, ?_, ?_⟩
          · rw [upd_same]
            unfold toI
            rw [List.map_append, List.map_append]
            rfl
          · rw [E1, List.append_assoc]
            rfl
          · rw [E2]
            exact ins_next (em (i + 1) (by omega))
        · -- a line inserted
          have h2 : j < new.length := by
            rcases hor with h1 | h2
            · by_cases c : j < new.length
              · exact c
              · have : j = new.length := by omega
                rw [decide_eq_true (show (i : Int) < (old.length : Nat) by omega), decide_eq_true (show j = new.length ∨ tab old new i (j + 1) ≤ tab old new (i + 1) j from .inl this)] at hc2
                cases hc2
            · exact h2
          have D2 := drop_at (hny h2)
          have dd : df (old.drop i) (new.drop j) = .insert new[j] :: df (old.drop i) (new.drop (j + 1)) := by
            by_cases h1 : i < old.length
            · have D1 := drop_at (hox h1)
              have c : ¬ tab old new i (j + 1) ≤ tab old new (i + 1) j := fun z => by
                rw [decide_eq_true (show (i : Int) < (old.length : Nat) by omega), decide_eq_true (show j = new.length ∨ tab old new i (j + 1) ≤ tab old new (i + 1) j from .inr z)] at hc2
                cases hc2
              unfold tab at c
              rw [D1, D2] at c ⊢
              exact df_insert _ _ (hne h1 h2) c
            · rw [D2, List.drop_eq_nil_of_le (show old.length ≤ i by omega)]
              exact df_nil_cons _ _
          obtain ⟨yv, hyv, ry⟩ := n2.get' (hny h2)
          rw [dd] at E1 E2
          have hr0 : i < rows.length := by rw [R.len]; omega
          have e0 : rows[i]? = some rows[i] := List.getElem?_eq_getElem hr0
          generalize rows[i] = r0 at e0
          have dm0 : (rows.map V.ref)[i]? = some (.ref r0) := by rw [List.getElem?_map, e0]; rfl
          have mr := List.mem_of_getElem? e0
          have fr := R.fresh r0 mr
          have hlen : (f i).length ≤ j := by
            rw [(al i).1]
            exact lj i
          refine s_seq (s_app (p := r0) (vl_ixL (vl_fld (vl_var rfl) hxH T.cl_Difference T.a_Difference_inserted fD_inserted) (vl_var rfl) (SqL.of R.d) dm0) (R.row i r0 e0) (vl_ixL (vl_var rfl) (vl_var rfl) (SqL.of (hN e.h)) hyv) (by omega) ?_)
          refine s_aug rfl vl_c ?_
          refine ⟨(old.length - i) + (new.length - (j + 1)), by omega, i, j + 1, dels, fun g => if g = i then done i ++ [new[j]] else done g, fun g => if g = i then f i ++ [yv] else f g, rfl, hi, h2, rfl, e.mut fr.1 (brow r0 mr), ?_, R.set e0, fun g => ?_, fun g hg => ?_, fun g => ?_, dl, E1, ?_⟩
          · rw [upd_ne (fun (z : da = r0) => nda (z ▸ mr))]
            exact hd
          · dsimp only
            by_cases c : g = i
            · rw [if_pos c, if_pos c]
              exact (al i).snoc ry
            · rw [if_neg c, if_neg c]
              exact al g
          · dsimp only
            rw [if_neg (by omega)]
            exact em g hg
          · dsimp only
            by_cases c : g = i
            · rw [if_pos c, List.length_append, List.length_singleton]
              have := lj i
              omega
            · rw [if_neg c]
              have := lj g
              omega
          · rw [E2]
            have m1 : (List.range i).map (fun g => if g = i then done i ++ [new[j]] else done g) = (List.range i).map done := List.map_congr_left fun g hg => by
              have := List.mem_range.mp hg
              rw [if_neg (by omega)]
            dsimp only
            rw [m1, if_pos rfl]
            show _ ++ headApp (done i) (headAdd new[j] (insOf (df (old.drop i) (new.drop (j + 1))))) = _
            rw [ins_add]
    · obtain ⟨q1, q2⟩ := Bool.or_eq_false_iff.mp hb
      have i1 : i = old.length := by have := of_decide_eq_false q1; omega
      have j1 : j = new.length := by have := of_decide_eq_false q2; omega
      subst i1 j1
      rw [List.drop_length, List.drop_length] at E1 E2
      refine ⟨_, rfl, ?_⟩
      have E1' : delOf 0 (df old new) = dels := by
        rw [E1]
        exact List.append_nil _
      have E2' : insOf (df old new) = (List.range (old.length + 1)).map done := by
        rw [E2, List.range_succ, List.map_append]
        show _ ++ [done old.length ++ []] = _
        rw [List.append_nil]
        rfl
      obtain ⟨B3, x3, s3, r3, n3⟩ := R.keep mono_line e hia0 bia brow (fun i _ => (al i).mono fun a b r => mono_line _ _ _ _ e4.b r)
      have b3 := n3 da bda dia nda
      refine k _ _ _ (x3.keep hda0 b3 hd) ⟨x, dx, .ref da, .ref ia, rfl, Same.new b3 _ _ (s3 _ _ bx2), ⟨da, _, rfl, upd_same, ?_⟩, ?_⟩
      · rw [E1']
        unfold toI
        rw [List.map_map]
        have := All2.map (R := NatV (upd B3 da (.lst ((toI dels).map V.int)))) (f := fun (n : Nat) => V.int (n : Int)) (g := id) (l := dels) fun c _ => rfl
        rw [List.map_id] at this
        exact this
      · rw [E2']
        exact mono_lst (mono_lst mono_line) _ _ _ _ (Same.new b3) r3
end
end Lg

-- ==== LgP7 ====
set_option Elab.async false
set_option linter.all false
set_option maxRecDepth 100000
set_option maxHeartbeats 4000000
/-! LgP7: written_change. -/
namespace Lg
open PySem PySem.Spec PyProof.Rows L2
open Gf11 (Line Position Change Hunk State)
section
variable {P : Program} {w : World} {K : PySem.W.Frag} {mg : Str → Option Value} {base : Heap}

def endsOf (b : Position) (old : List Position) : List Position := b :: (old ++ [.end_])
theorem hunksOf_snoc : ∀ (gs : List (List Line)) (b : Position) (old : List Position) (x : List Line), gs.length ≤ old.length →
    hunksOf b old (gs ++ [x]) = hunksOf b old gs ++ (if x.isEmpty = true then [] else [⟨(endsOf b old).getD gs.length .end_, (endsOf b old).getD (gs.length + 1) .end_, x⟩])
  | [], b, old, x, _ => by
    rw [show hunksOf b old ([] ++ [x]) = (if x.isEmpty = true then [] else [Hunk.mk b (old.headD .end_) x]) ++ [] from rfl, List.append_nil, show hunksOf b old [] = [] from rfl, List.nil_append]
    cases old <;> rfl
  | g :: gs, b, [], x, h => absurd h (Nat.not_succ_le_zero _)
  | g :: gs, b, p :: ps, x, h => by
    show (if g.isEmpty = true then [] else _) ++ hunksOf p ps (gs ++ [x]) = ((if g.isEmpty = true then [] else _) ++ hunksOf p ps gs) ++ _
    rw [hunksOf_snoc gs p ps x (Nat.le_of_succ_le_succ h), List.append_assoc]
    rfl
theorem delOf_lt : ∀ (es : List Gf11.Edit) (k : Nat), ∀ d ∈ delOf k es, d < k + steps es
  | [], k, d, h => nomatch h
  | .insert _ :: es, k, d, h => delOf_lt es k d h
  | .keep :: es, k, d, h => by
    have := delOf_lt es (k + 1) d h
    show d < k + (steps es + 1)
    omega
  | .delete :: es, k, d, h => by
    show d < k + (steps es + 1)
    rcases List.mem_cons.mp h with rfl | h
    · omega
    · have := delOf_lt es (k + 1) d h
      omega
theorem s_ifA {te : TE} {t1 t2 : TS} {D : Ends} {σ : L2.St} {H : Hp} (h : te σ H fun x H1 => ∃ k, x = .bl k ∧ if k = true then t1 D σ H1 else t2 D σ H1) : tIfS (tTest te) t1 t2 D σ H := h
theorem s_makeA {C : Addr} {sp : Sp} {E : XK} {ar : TA} {σ : L2.St} {H : Hp} {Q : VK} (h : ar σ H fun vs H1 => ∀ x dx, H1 x = none → H1 dx = none → dx ≠ x → sp (.ref x :: (vs ++ [])) (upd (upd H1 dx (.own x)) x (.ins C dx [])) (fun v H2 => v = .non ∧ Q (.ref x) H2) E) : tMake C sp [] E ar σ H Q := h
theorem lines_tup {B : Hp} {vs : List V} {ls : List Line} (h : All2 (LineV K B) vs ls) : All2 (TupV K B) vs (ls.map lineI) :=
  ⟨by rw [List.length_map]; exact h.1, fun i a b x y => by
    rw [List.getElem?_map] at y
    cases e : ls[i]? with
    | none =>
      rw [e] at y
      cases y
    | some l =>
      rw [e] at y
      cases y
      exact h.2 i a l x e⟩
theorem pos_tup {B : Hp} {vs : List V} {ls : List Position} (h : All2 (PosV K B) vs ls) : All2 (TupV K B) vs (ls.map posI) :=
  ⟨by rw [List.length_map]; exact h.1, fun i a b x y => by
    rw [List.getElem?_map] at y
    cases e : ls[i]? with
    | none =>
      rw [e] at y
      cases y
    | some l =>
      rw [e] at y
      cases y
      exact h.2 i a l x e⟩
/-- the change that difference_of's difference makes -/
def madeOf (places : List Position) (old new : List Line) : Change := ⟨hunksOf .start places (insOf (df old new)), pick places (delOf 0 (df old new))⟩
def spWritten (K : PySem.W.Frag) : Sp := fun vs H Q _ => ∃ (B : Hp) (n : Nat) (pv ov nv : V) (places : List Position) (old new : List Line), vs = [.int (n : Int), pv, ov, nv] ∧ Same B H ∧ LstV (PosV K) B pv places ∧ LstV (LineV K) B ov old ∧ LstV (LineV K) B nv new ∧
  places.length = old.length ∧ old.length ≤ 1000 ∧ new.length ≤ 1000 ∧ (linesOf (madeOf places old new).hunks).length ≤ 100000 ∧ Ret B H Q fun B' v => ChangeV K B' v (n, madeOf places old new)
theorem ok_written_change (T : Txt K mg) : DOk P w K mg base CX0 4 (gad K "written_change") p_written_change (spWritten K) := by
  refine ok_of_written_change T (ok_difference_of T) (ok_Change_init T) (fun vs H Q E h => ?_) fun vs H Q E h => ?_
  · obtain ⟨B, n, pv, ov, nv, places, old, new, rfl, _⟩ := h
    rfl
  obtain ⟨B, n, pv, ov, nv, places, old, new, rfl, hB, ⟨pa, pvs, rfl, p1, p2⟩, ho, hn, lp, lo, ln, hl, k⟩ := h
  refine s_seq (s_par3 ?_)
  refine s_cons (s_call (al_cons (vl_var rfl) (al_cons (vl_var rfl) al_nil)) ⟨B, _, _, old, new, rfl, hB, ho, hn, lo, ln, fun B1 H1 fv e1 rf => ?_⟩)
  obtain ⟨x, fx, dv, iv, rfl, x1, ⟨da, dvs, rfl, d1, d2⟩, ⟨ia, ivs, rfl, i1, i2⟩⟩ := rf
  refine s_cons ?_
  -- ends = [START] + places + [END]
  refine s_op (s_op (s_lst (al_cons vl_c al_nil) (by show 1 ≤ 1000; decide) fun q1 hq1 => vl_var rfl _ ?_))
  have x2 := e1.tmp (o := .lst [V.ref (gad K "START")]) hq1
  refine ⟨q1, pa, _, pvs, rfl, rfl, upd_same, x2.h _ _ (hB _ _ p1), szl (by show 1 + pvs.length ≤ _; rw [p2.1]; omega), fun q2 hq2 => ?_⟩
  have x3 := x2.tmp (o := .lst ([V.ref (gad K "START")] ++ pvs)) hq2
  refine s_lst (al_cons vl_c al_nil) (by show 1 ≤ 1000; decide) fun q3 hq3 => ?_
  have x4 := x3.tmp (o := .lst [V.ref (gad K "END")]) hq3
  refine ⟨q2, q3, _, _, rfl, rfl, Same.new hq3 _ _ upd_same, upd_same, szl (by simp only [List.length_append, List.length_singleton]; rw [p2.1]; omega), fun ea hea => ?_⟩
  have x5 := x4.new (o := .lst ([V.ref (gad K "START")] ++ pvs ++ [V.ref (gad K "END")])) hea
  refine s_cons (s_lst al_nil (by show 0 ≤ 1000; decide) fun ha hha => ?_)
  have x6 := x5.tmp (o := .lst []) hha
  refine ⟨_, _, _, rfl, ?_⟩
  dsimp only
  have bh : (upd B1 ea (.lst ([V.ref (gad K "START")] ++ pvs ++ [V.ref (gad K "END")]))) ha = none := x5.s.free hha
  have hh0 : H ha = none := x5.h.free hha
  have b1e : B1 ea = none := x4.s.free hea
  have sB := Same.new (o := .lst ([V.ref (gad K "START")] ++ pvs ++ [V.ref (gad K "END")])) b1e
  generalize hB2 : upd B1 ea (.lst ([V.ref (gad K "START")] ++ pvs ++ [V.ref (gad K "END")])) = B2 at x5 x6 bh sB
  have e2 : B2 ea = some (.lst ([V.ref (gad K "START")] ++ pvs ++ [V.ref (gad K "END")])) := by rw [← hB2, upd_same]
  have al : All2 (PosV K B2) ([V.ref (gad K "START")] ++ pvs ++ [V.ref (gad K "END")]) (endsOf .start places) := by
    have a1 : All2 (PosV K B2) [V.ref (gad K "START")] [Position.start] := .cons ⟨_, rfl, T.t_START B2⟩ .nil
    have a2 : All2 (PosV K B2) [V.ref (gad K "END")] [Position.end_] := .cons ⟨_, rfl, T.t_END B2⟩ .nil
    have a3 := (a1.append (p2.mono fun a b r => mono_pos _ _ _ _ (e1.b.trans sB) r)).append a2
    exact a3
  have i2' : All2 (LstV (LineV K) B2) ivs (insOf (df old new)) := i2.mono fun a b r => mono_lst mono_line _ _ _ _ sB r
  have d2' : All2 (NatV B2) dvs (delOf 0 (df old new)) := d2.mono fun a b r => r
  have lenI : (insOf (df old new)).length = places.length + 1 := by rw [insOf_len, steps_df _ _ _ (Nat.le_refl _), lp]
  refine s_seq (s_forE (xs := ivs) (a := ia) (vl_fld (vl_var rfl) (x6.s _ _ (sB _ _ x1)) T.cl_Difference T.a_Difference_inserted fD_inserted) (SqL.of (x6.s _ _ (sB _ _ i1)))
    (fun g σ H' => ∃ B3 hvs v7 v8, σ = [some (.int (n : Int)), some (.ref pa), some ov, some nv, some (.ref x), some (.ref ea), some (.ref ha), v7, v8, none] ∧ Ext B H B3 H' ∧ Same B2 B3 ∧ B3 ha = none ∧ H' ha = some (.lst hvs) ∧ hvs.length ≤ g ∧
      All2 (HunkV K B3) hvs (hunksOf .start places ((insOf (df old new)).take g))) ?_ ?_ ?_ ?_)
  · exact ⟨B2, [], none, none, rfl, x6, Same.refl _, bh, upd_same, Nat.zero_le _, All2.nil⟩
  · rintro g σ H' _ ⟨B3, hvs, v7, v8, rfl, e, s3, _⟩
    exact SqL.of (e.s _ _ (s3 _ _ (sB _ _ i1)))
  · rintro g v σ H' t hg ⟨B3, hvs, v7, v8, rfl, e, s3, b3, hv, hle, ah⟩ ht
    obtain ⟨ls, hls, ⟨la, lvs, rfl, l1, l2⟩⟩ := i2'.get hg
    have gl : g < (insOf (df old new)).length := (List.getElem?_eq_some_iff.mp hls).1
    have x7 := e.tmp (o := .tup [.int (g : Int), .ref la]) ht
    have tne : ha ≠ t := fun z => by
      rw [← z, hv] at ht
      cases ht
    refine g_two (SqT.of upd_same) (s_ifA ?_)
    have hla := x7.s _ _ (s3 _ _ l1)
    refine s_neNil (l := ls.map lineI) (vl_var rfl) hla ((lines_tup l2).mono fun a b r => mono_tup _ _ _ _ s3 r) x7.s fun q hq => ?_
    have x8 := x7.tmp (o := .lst []) hq
    have hv8 : (upd (upd H' t (.tup [.int (g : Int), .ref la])) q (.lst [])) ha = some (.lst hvs) := Same.new hq _ _ ((upd_ne tne).trans hv)
    have tk : (insOf (df old new)).take (g + 1) = (insOf (df old new)).take g ++ [ls] := by rw [List.take_add_one, hls]; rfl
    have hs := hunksOf_snoc ((insOf (df old new)).take g) .start places ls (by rw [List.length_take]; omega)
    have tl : ((insOf (df old new)).take g).length = g := by rw [List.length_take]; omega
    rw [← tk, tl] at hs
    rw [List.isEmpty_map]
    refine ⟨_, rfl, ?_⟩
    cases hem : ls.isEmpty with
    | true =>
      refine iteF ⟨B3, hvs, _, _, rfl, x8, s3, b3, hv8, by omega, ?_⟩
      rw [hs, hem, if_pos rfl, List.append_nil]
      exact ah
    | false =>
      refine iteT ?_
      have lenE : (endsOf .start places).length = places.length + 2 := by
        unfold endsOf
        rw [List.length_cons, List.length_append, List.length_singleton]
      have at1 : ∀ i, i < places.length + 2 → (endsOf .start places)[i]? = some ((endsOf .start places).getD i .end_) := fun i hi => by
        rw [List.getD_eq_getElem?_getD, List.getElem?_eq_getElem (by omega)]
        rfl
      obtain ⟨w1, hw1, r1⟩ := al.get' (at1 g (by omega))
      obtain ⟨w2, hw2, r2⟩ := al.get' (at1 (g + 1) (by omega))
      have hea8 := SqL.of (K := K) (x8.s _ _ (s3 _ _ e2))
      refine ⟨_, rfl, .inl ⟨rfl, _, SqL.of hv8⟩, s_cons (s_tup (al_cons (vl_ixL (vl_var rfl) (vl_var rfl) hea8 hw1) (al_cons (vl_var rfl) (al_cons (vl_ixL (j := g + 1) (vl_var rfl) (vl_add (n := g) (m := 1) (vl_var rfl) vl_c) hea8 hw2) al_nil))) (by show 3 ≤ 1000; decide) fun u hu => ?_)⟩
      have x9 := x8.new (o := .tup [w1, .ref la, w2]) hu
      have hv9 := Same.new (o := .tup [w1, .ref la, w2]) hu _ _ hv8
      have b3u : B3 u = none := x8.s.free hu
      have b39 := x9.f ha
      have ub : (upd B3 u (.tup [w1, .ref la, w2])) ha = none := by
        have : ha ≠ u := fun z => by
          rw [← z, hv8] at hu
          cases hu
        rw [upd_ne this]
        exact b3
      have sU := Same.new (o := .tup [w1, .ref la, w2]) b3u
      refine ⟨ha, hvs, .ref u, rfl, rfl, hv9, szlt (by omega), ?_⟩
      refine ⟨_, _, _, _, rfl, x9.mut hh0 ub, s3.trans sU, ub, upd_same, by rw [List.length_append, List.length_singleton]; omega, ?_⟩
      rw [hs, hem, if_neg Bool.false_ne_true]
      refine (ah.mono fun a b r => mono_hunk _ _ _ _ sU r).snoc ⟨u, w1, .ref la, w2, rfl, SqT.of upd_same, mono_pos _ _ _ _ (s3.trans sU) r1, ⟨la, lvs, rfl, sU _ _ (s3 _ _ l1), l2.mono fun a b r => mono_line _ _ _ _ (s3.trans sU) r⟩, mono_pos _ _ _ _ (s3.trans sU) r2⟩
  · rintro σ H' ⟨B3, hvs, v7, v8, rfl, e, s3, b3, hv, hle, ah⟩
    rw [i2.1, List.take_length] at ah
    dsimp only
    refine s_retN (s_makeA (s_cons (vl_var rfl _ (s_cons (vl_var rfl _ (s_cons ?_))))))
    have y1 := e.keep hh0 b3 hv
    have sH := Same.new (o := .lst hvs) b3
    have hs3 : LstV (HunkV K) (upd B3 ha (.lst hvs)) (.ref ha) (madeOf places old new).hunks := ⟨ha, hvs, rfl, upd_same, ah.mono fun a b r => mono_hunk _ _ _ _ sH r⟩
    have d4 := y1.s _ _ (sH _ _ (s3 _ _ (sB _ _ d1)))
    have x4' := y1.s _ _ (sH _ _ (s3 _ _ (sB _ _ x1)))
    generalize hB4 : upd B3 ha (.lst hvs) = B4 at y1 sH hs3
    have ld : dvs.length ≤ 1000 := by
      rw [d2.1]
      have : ∀ (es : List Gf11.Edit) (k : Nat), (delOf k es).length ≤ steps es := by
        intro es
        induction es with
        | nil => intro k; exact Nat.le_refl _
        | cons a es ih =>
          intro k
          cases a with
          | keep => exact Nat.le_succ_of_le (ih (k + 1))
          | delete => exact Nat.succ_le_succ (ih (k + 1))
          | insert l => exact ih k
      have := this (df old new) 0
      rw [steps_df _ _ _ (Nat.le_refl _)] at this
      omega
    refine s_lcL (B := B4) (R := PosV K) (xs := dvs) (ys := fun i => ((delOf 0 (df old new))[i]?).bind fun d => places[d]?) y1.s mono_pos (vl_fld (vl_var rfl) x4' T.cl_Difference T.a_Difference_deleted fD_deleted) (SqL.of d4) (by omega) (fun _ => rfl)
      (fun i v B5 H5 hi e5 => ⟨true, tl_yes, fun _ Q2 k2 => ?_, fun z => (nomatch z)⟩) fun B5 H5 lv e5 r5 => ?_
    · obtain ⟨d, hd, rfl⟩ := d2.get hi
      have hlt : d < places.length := by
        have := delOf_lt _ _ d (List.mem_of_getElem? hd)
        rw [steps_df _ _ _ (Nat.le_refl _)] at this
        omega
      have hp : places[d]? = some places[d] := List.getElem?_eq_getElem hlt
      obtain ⟨pv, hpv, rp⟩ := p2.get' hp
      have s4 : Same B B5 := y1.b.trans e5.b
      refine vl_ixL (j := d) (vl_var rfl) (vl_var rfl) (SqL.of (e5.s _ _ (s4 _ _ p1))) hpv _ (k2 _ _ _ (Ext.refl e5.s) ⟨places[d], mono_pos _ _ _ _ s4 rp, ?_⟩)
      rw [hd]
      exact hp
    · rw [d2.1, filterMap_bind] at r5
      intro c cx hc hcx cne
      have y2 := y1.trans e5
      have ms := made_same (C := gad K "Change") hc hcx e5.s
      have bc : B5 c = none := e5.s.free hc
      have hs5 := mono_lst mono_hunk _ _ _ _ e5.b hs3
      refine ⟨B5, c, cx, (n : Int), (madeOf places old new).hunks, .ref ha, lv, rfl, ms, upd_same, bc, hs5, hl, fun B6 H6 lv6 e6 hc6 r6 => ⟨rfl, ?_⟩⟩
      have y3 := made_ext hc hcx cne e5.s e6 hc6
      have bc6 : B6 c = none := e6.f c _ upd_same bc
      have s6 := e6.b.trans (Same.new (o := .ins (gad K "Change") cx (fC (.int (n : Int)) (.ref ha) lv lv6)) bc6)
      exact k _ _ _ (y2.trans y3) ⟨c, cx, .ref ha, lv, lv6, rfl, upd_same, mono_lst mono_hunk _ _ _ _ s6 hs5, mono_lst mono_pos _ _ _ _ s6 r5, mono_lst mono_line _ _ _ _ (Same.new bc6) r6⟩
end
end Lg

-- ==== LgP8 ====
set_option Elab.async false
set_option linter.all false
set_option maxRecDepth 100000
set_option maxHeartbeats 4000000
/-! LgP8: steps_of. -/
namespace Lg
open PySem PySem.Spec PyProof.Rows L2
open Gf11 (Line Position Change Hunk State)
theorem cut_from (xs : List V) (k : Nat) : cutV xs (some (k : Int)) none = xs.drop k := by
  unfold cutV
  rw [HT.sIx_nat, HT.sIx_none]
  by_cases h : k ≤ xs.length
  · rw [Nat.min_eq_left h]
    exact List.take_of_length_le (by rw [List.length_drop]; omega)
  · rw [Nat.min_eq_right (by omega), List.drop_length, List.drop_eq_nil_of_le (by omega)]
    simp
theorem cut_range (xs : List V) (i j : Nat) (h : j ≤ xs.length) : cutV xs (some (i : Int)) (some (j : Int)) = (xs.drop i).take (j - i) := by
  unfold cutV
  rw [HT.sIx_nat, HT.sIx_nat, Nat.min_eq_left h]
  by_cases h2 : i ≤ xs.length
  · rw [Nat.min_eq_left h2]
  · rw [Nat.min_eq_right (by omega), List.drop_length, List.drop_eq_nil_of_le (show xs.length ≤ i by omega)]
    simp
theorem consec_at : ∀ {l : List Position} {k : Nat} {x y : Position}, l[k]? = some x → l[k + 1]? = some y → (Gf11.consecutive l)[k]? = some (x, y)
  | [], _, _, _, h, _ => by simp at h
  | [a], k, _, _, _, h => by simp at h
  | a :: b :: l, 0, x, y, h1, h2 => by
    simp at h1 h2
    rw [← h1, ← h2]
    rfl
  | a :: b :: l, k + 1, x, y, h1, h2 => by
    show ((a, b) :: Gf11.consecutive (b :: l))[k + 1]? = _
    rw [List.getElem?_cons_succ]
    exact consec_at (by simpa using h1) (by simpa using h2)
theorem consec_len : ∀ (l : List Position), (Gf11.consecutive l).length = l.length - 1
  | [] => rfl
  | [a] => rfl
  | a :: b :: l => by
    show (Gf11.consecutive (b :: l)).length + 1 = _
    rw [consec_len (b :: l)]
    simp
theorem flat_at {α β : Type} {l : List α} {f : α → List β} {i : Nat} {x : α} (h : l[i]? = some x) : (l.take (i + 1)).flatMap f = (l.take i).flatMap f ++ f x := by
  rw [List.take_add_one, h, List.flatMap_append]
  simp
theorem flat_le {α β : Type} (l : List α) (f : α → List β) (i : Nat) : ((l.take i).flatMap f).length ≤ (l.flatMap f).length := by
  have : l.flatMap f = (l.take i).flatMap f ++ (l.drop i).flatMap f := by rw [← List.flatMap_append, List.take_append_drop]
  rw [this, List.length_append]
  omega
abbrev Edg := List (Position × Position)
def succOf (es : Edg) (x : Position) : List Position := (es.filter fun e => decide (e.1 = x)).map (·.2)
theorem succ_snoc (es : Edg) (p q x : Position) : succOf (es ++ [(p, q)]) x = if p = x then succOf es x ++ [q] else succOf es x := by
  unfold succOf
  rw [List.filter_append, List.map_append]
  by_cases h : p = x
  · simp [h]
  · simp [h]
theorem mem_succ {es : Edg} {x y : Position} : y ∈ succOf es x ↔ (x, y) ∈ es := by
  unfold succOf
  rw [List.mem_map]
  constructor
  · rintro ⟨⟨a, b⟩, h, rfl⟩
    obtain ⟨h1, h2⟩ := List.mem_filter.mp h
    have : a = x := of_decide_eq_true h2
    rw [← this]
    exact h1
  · intro h
    exact ⟨(x, y), List.mem_filter.mpr ⟨h, decide_eq_true rfl⟩, rfl⟩
def edgesN (ncs : List (Nat × Change)) : Edg := ncs.flatMap fun c => Gf11.hunkEdges c.1 0 c.2.hunks
section
variable {P : Program} {w : World} {K : PySem.W.Frag} {mg : Str → Option Value} {base : Heap}
def StepsV (K : PySem.W.Frag) (B : Hp) (o : Option V) (l : List Position) : Prop := (o = none ∧ l = []) ∨ ∃ v, o = some v ∧ LstV (PosV K) B v l
/-- the dict of steps of es -/
def SD (K : PySem.W.Frag) (B : Hp) (es : Edg) (L : List DE) : Prop := KeysOk K B L ∧ ∀ x, StepsV K B (dLook L (posI x)) (succOf es x)
theorem keys_mono {B B' : Hp} {L : List DE} (s : Same B B') (h : KeysOk K B L) : KeysOk K B' L := fun e he => sqT_mono s (h e he)
theorem StepsV.mono {B B' : Hp} {o : Option V} {l : List Position} (s : Same B B') (h : StepsV K B o l) : StepsV K B' o l := h.imp id fun ⟨v, e, r⟩ => ⟨v, e, mono_lst mono_pos _ _ _ _ s r⟩
theorem SD.mono {B B' : Hp} {es : Edg} {L : List DE} (s : Same B B') (h : SD K B es L) : SD K B' es L := ⟨keys_mono s h.1, fun x => (h.2 x).mono s⟩
/-- a dict with one more key -/
theorem keys_put {B : Hp} {L : List DE} {k : KI} {a : Addr} {v : V} (h : KeysOk K B L) (ha : SqT K B a (k.map V.int)) : KeysOk K B (dPut L k a v) := fun e he => by
  rcases mem_dPut he with ⟨x, hx⟩ | ⟨h1, h2⟩
  · exact h (e.1, e.2.1, x) hx
  · rw [h1, h2]
    exact ha
/-- what the dict at D tells so far -/
def SW (K : PySem.W.Frag) (P : Program) (w : World) (B H Bx : Hp) (D : Addr) (es : Edg) (H' : Hp) : Prop := ∃ B1 L, Ext B H B1 H' ∧ Same Bx B1 ∧ B1 D = none ∧ H' D = some (DTO P w D L) ∧ SD K B1 es L ∧ L.length ≤ es.length
theorem SW.same {B H Bx H' : Hp} {D : Addr} {es : Edg} (x : SW K P w B H Bx D es H') : Same Bx H' := by
  obtain ⟨B1, L, e, s, _⟩ := x
  exact s.trans e.s
theorem SW.old {B H Bx H' : Hp} {D : Addr} {es : Edg} (x : SW K P w B H Bx D es H') : Same H H' := by
  obtain ⟨B1, L, e, _⟩ := x
  exact e.h
theorem SW.tmp {B H Bx H' : Hp} {D p : Addr} {o : HO} {es : Edg} (x : SW K P w B H Bx D es H') (h : H' p = none) : SW K P w B H Bx D es (upd H' p o) := by
  obtain ⟨B1, L, e, s, b, hd, r⟩ := x
  exact ⟨B1, L, e.tmp h, s, b, Same.new h _ _ hd, r⟩
theorem SW.less {B H Bx By H' : Hp} {D : Addr} {es : Edg} (x : SW K P w B H Bx D es H') (h : Same By Bx) : SW K P w B H By D es H' := by
  obtain ⟨B1, L, e, s, r⟩ := x
  exact ⟨B1, L, e, h.trans s, r⟩
/-- d.get(k, []): the list, or a new one -/
theorem s_get2 {td ty : TE} {σ : L2.St} {B1 H : Hp} {a : Addr} {v : V} {x : Position} {es : Edg} {L : List DE} {Q : VK} (s : Same B1 H) (h1 : Vl td σ H (.ref a)) (ha : H a = some (DTO P w a L)) (sd : SD K B1 es L) (h2 : ∀ H2, Same H H2 → Vl ty σ H2 v) (hv : PosV K B1 v x)
    (k : ∀ H2 p vs, Ext B1 H B1 H2 → H2 p = some (.lst vs) → All2 (PosV K B1) vs (succOf es x) → Q (.ref p) H2) : tXGet2 K P w td ty (tLst tNil) σ H Q := by
  refine h1 _ ⟨a, L, rfl, ha, h2 H (Same.refl H) _ (s_lst al_nil (by show 0 ≤ 1000; decide) fun p hp => ?_)⟩
  have x1 : Ext B1 H B1 (upd H p (.lst [])) := (Ext.refl s).tmp hp
  obtain ⟨b, rfl, hb⟩ := hv
  refine ⟨dLook L (posI x), ⟨L, posI x, b, Same.new hp _ _ ha, keys_mono x1.s sd.1, rfl, sqT_mono x1.s hb, rfl⟩, ?_⟩
  rcases sd.2 x with ⟨h, h'⟩ | ⟨u, h, lv, vs, rfl, l1, l2⟩
  · rw [h]
    refine k _ p [] x1 upd_same ?_
    rw [h']
    exact .nil
  · rw [h]
    exact k _ lv vs x1 (x1.s _ _ l1) l2
def spSteps (K : PySem.W.Frag) (P : Program) (w : World) : Sp := fun vs H Q _ => ∃ (B : Hp) (v : V) (ncs : List (Nat × Change)), vs = [v] ∧ Same B H ∧ LstV (ChangeV K) B v ncs ∧ (∀ c ∈ ncs, Small c.2) ∧ (edgesN ncs).length ≤ 100000 ∧
  Ret B H Q fun B' v => ∃ a L, v = .ref a ∧ B' a = some (DTO P w a L) ∧ SD K B' (edgesN ncs) L
theorem ok_steps_of (T : Txt K mg) : DOk P w K mg base CX0 2 (gad K "steps_of") p_steps_of (spSteps K P w) := by
  refine ok_of_steps_of T (ok_Change_chains T) (fun vs H Q E h => ?_) fun vs H Q E h => ?_
  · obtain ⟨B, v, ncs, rfl, _⟩ := h
    rfl
  obtain ⟨B, v, ncs, rfl, hB, ⟨va, cvs, rfl, c1, c2⟩, sm, hz, k⟩ := h
  refine s_seq (s_asgN fun D hD => ?_)
  have bD := hB.free hD
  have x0 : SW K P w B H B D [] (upd H D (DTO P w D [])) := ⟨B, [], (Ext.refl hB).tmp hD, Same.refl B, bD, upd_same, ⟨fun e he => (nomatch he), fun x => .inl ⟨rfl, rfl⟩⟩, Nat.le_refl _⟩
  dsimp only
  refine s_seq (s_forL (xs := cvs) (vl_var rfl) (SqL.of (Same.new hD _ _ (hB _ _ c1))) (fun i σ H' => ∃ v2 v3 v4 v5, σ = [some (.ref va), some (.ref D), v2, v3, v4, v5] ∧ SW K P w B H B D (edgesN (ncs.take i)) H') ?_ ?_ ?_ ?_)
  · exact ⟨none, none, none, none, rfl, x0⟩
  · rintro i σ H' _ ⟨v2, v3, v4, v5, rfl, x⟩
    exact SqL.of (x.old _ _ (hB _ _ c1))
  · rintro i cv σ H' hi ⟨v2, v3, v4, v5, rfl, x⟩
    obtain ⟨⟨n, c⟩, hc, rc⟩ := c2.get hi
    obtain ⟨B1, L, e, s1, bD1, hDl, sd, hL⟩ := x
    have rc1 := mono_change _ _ _ _ e.b rc
    have rc' := rc1
    obtain ⟨ca, dx, hs, ds, ls, rfl, ho, _⟩ := rc'
    refine s_meth (vl_var rfl) (e.s _ _ ho) fC_chains al_nil ⟨B1, .ref ca, n, c, rfl, e.s, rc1, sm _ (List.mem_of_getElem? hc), fun B2 H2 chv e2 rch => ?_⟩
    obtain ⟨cha, chvs, rfl, ch1, ch2⟩ := rch
    have et : edgesN (ncs.take (i + 1)) = edgesN (ncs.take i) ++ (chainsOf n 0 c.hunks).flatMap Gf11.consecutive := by
      unfold edgesN
      rw [flat_at hc, edges_chains]
    have le1 : (edgesN (ncs.take (i + 1))).length ≤ 100000 := Nat.le_trans (flat_le _ _ _) hz
    rw [et, List.length_append] at le1
    have xc : SW K P w B H B2 D (edgesN (ncs.take i)) H2 := ⟨B2, L, e.trans e2, Same.refl B2, e2.f D _ hDl bD1, e2.h D _ hDl, sd.mono e2.b, hL⟩
    refine ⟨cha, rfl, ⟨chvs, SqL.of (e2.s _ _ ch1)⟩, for_list (xs := chvs) (fun j σ H' => ∃ v3 v4 v5, σ = [some (.ref va), some (.ref D), some (.ref ca), v3, v4, v5] ∧ SW K P w B H B2 D (edgesN (ncs.take i) ++ ((chainsOf n 0 c.hunks).take j).flatMap Gf11.consecutive) H') ?_ ?_ ?_ ?_⟩
    · refine ⟨v3, v4, v5, rfl, ?_⟩
      rw [show (List.take 0 (chainsOf n 0 c.hunks)).flatMap Gf11.consecutive = [] from rfl, List.append_nil]
      exact xc
    · rintro j σ H' _ ⟨v3, v4, v5, rfl, x⟩
      exact SqL.of (x.same _ _ ch1)
    · rintro j chv σ H' hj ⟨v3, v4, v5, rfl, x⟩
      obtain ⟨ch, hch, pa, pvs, rfl, p1, p2⟩ := ch2.get hj
      have et2 : ((chainsOf n 0 c.hunks).take (j + 1)).flatMap Gf11.consecutive = ((chainsOf n 0 c.hunks).take j).flatMap Gf11.consecutive ++ Gf11.consecutive ch := flat_at hch
      have le2 := flat_le (chainsOf n 0 c.hunks) Gf11.consecutive (j + 1)
      rw [et2, List.length_append] at le2
      refine s_zip (s_cons (vl_var rfl _ (s_cons ?_)))
      refine s_cut (lo := some ((1 : Nat) : Int)) (hi := none) (vl_var rfl) (po_vl vl_c) po_no (SqL.of (x.same _ _ p1)) fun q hq => ?_
      rw [cut_from]
      have xq := x.tmp (o := .lst (pvs.drop 1)) hq
      refine ⟨pa, q, pvs, pvs.drop 1, rfl, SqL.of (xq.same _ _ p1), SqL.of upd_same, ?_⟩
      -- the cut list stands from now on, with B2
      obtain ⟨B3, L3, e3, s3, bD3, hD3, sd3, hL3⟩ := x
      have b3q := e3.s.free hq
      have hqD : D ≠ q := fun z => by
        rw [← z, hD3] at hq
        cases hq
      have xq : SW K P w B H (upd B3 q (.lst (pvs.drop 1))) D (edgesN (ncs.take i) ++ ((chainsOf n 0 c.hunks).take j).flatMap Gf11.consecutive) (upd H' q (.lst (pvs.drop 1))) :=
        ⟨_, L3, e3.new hq, Same.refl _, (upd_ne hqD).trans bD3, (upd_ne hqD).trans hD3, sd3.mono (Same.new b3q), hL3⟩
      have s23 : Same B2 (upd B3 q (.lst (pvs.drop 1))) := s3.trans (Same.new b3q)
      have bq : (upd B3 q (.lst (pvs.drop 1))) q = some (.lst (pvs.drop 1)) := upd_same
      generalize upd B3 q (.lst (pvs.drop 1)) = B4 at xq s23 bq
      refine s_forZ (SqL.of (xq.same _ _ (s23 _ _ p1))) (SqL.of upd_same) (by rw [List.length_drop]; omega)
        (fun m σ H' => ∃ v4 v5, σ = [some (.ref va), some (.ref D), some (.ref ca), some (.ref pa), v4, v5] ∧ SW K P w B H B4 D (edgesN (ncs.take i) ++ ((chainsOf n 0 c.hunks).take j).flatMap Gf11.consecutive ++ (Gf11.consecutive ch).take m) H') ?_ ?_ ?_ ?_
      · refine ⟨v4, v5, rfl, ?_⟩
        rw [List.take_zero, List.append_nil]
        exact xq
      · rintro m σ H' _ ⟨v4, v5, rfl, x⟩
        exact ⟨SqL.of (x.same _ _ (s23 _ _ p1)), SqL.of (x.same _ _ bq)⟩
      · rintro m ov tv σ H' t hm1 hm2 ⟨v4, v5, rfl, x⟩ ht
        rw [List.getElem?_drop, Nat.add_comm] at hm2
        obtain ⟨one, ho1, ro⟩ := p2.get hm1
        obtain ⟨oth, ho2, rt⟩ := p2.get hm2
        have hcs := consec_at ho1 ho2
        have tk : (Gf11.consecutive ch).take (m + 1) = (Gf11.consecutive ch).take m ++ [(one, oth)] := by rw [List.take_add_one, hcs]; rfl
        have lt1 : ((Gf11.consecutive ch).take m).length ≤ (Gf11.consecutive ch).length := by rw [List.length_take]; omega
        refine g_two (SqT.of upd_same) ?_
        have xt := x.tmp (o := .tup [ov, tv]) ht
        generalize upd H' t (.tup [ov, tv]) = H4 at xt
        obtain ⟨B5, L5, e5, s5, bD5, hD5, sd5, hL5⟩ := xt
        have ro5 := mono_pos _ _ _ _ (s23.trans s5) ro
        have rt5 := mono_pos _ _ _ _ (s23.trans s5) rt
        generalize hes : edgesN (ncs.take i) ++ ((chainsOf n 0 c.hunks).take j).flatMap Gf11.consecutive ++ (Gf11.consecutive ch).take m = es at sd5 hL5
        have lenE : es.length ≤ 100000 := by
          rw [← hes, List.length_append, List.length_append]
          omega
        refine s_op ?_
        refine s_get2 e5.s (vl_var rfl) hD5 sd5 (fun _ _ => vl_var rfl) ro5 fun H6 pl vs6 e6 hp6 al6 => ?_
        refine s_lst (al_cons (vl_var rfl) al_nil) (by show 1 ≤ 1000; decide) fun q1 hq1 => ?_
        have e7 := (e5.trans e6).tmp (o := .lst [tv]) hq1
        refine ⟨pl, q1, vs6, [tv], rfl, rfl, Same.new hq1 _ _ hp6, upd_same, ?_, fun q2 hq2 => ?_⟩
        · have : (succOf es one).length ≤ es.length := by
            unfold succOf
            rw [List.length_map]
            exact List.length_filter_le _ _
          rw [← al6.1] at this
          exact szl (by show vs6.length + 1 ≤ _; omega)
        · have e8 := e7.new (o := .lst (vs6 ++ [tv])) hq2
          have hD7 : (upd H6 q1 (.lst [tv])) D = some (DTO P w D L5) := Same.new hq1 _ _ (e6.h _ _ hD5)
          have Dq : D ≠ q2 := fun z => by
            rw [← z, hD7] at hq2
            cases hq2
          have hD8 : (upd (upd H6 q1 (.lst [tv])) q2 (.lst (vs6 ++ [tv]))) D = some (DTO P w D L5) := (upd_ne Dq).trans hD7
          have b5q : B5 q2 = none := e7.s.free hq2
          have s58 := Same.new (o := .lst (vs6 ++ [tv])) b5q
          have ro8 := mono_pos _ _ _ _ s58 ro5
          have bD8 : (upd B5 q2 (.lst (vs6 ++ [tv]))) D = none := (upd_ne Dq).trans bD5
          have r8 : LstV (PosV K) (upd B5 q2 (.lst (vs6 ++ [tv]))) (.ref q2) (succOf es one ++ [oth]) := ⟨q2, _, rfl, upd_same, (al6.mono fun a b r => mono_pos _ _ _ _ s58 r).snoc (mono_pos _ _ _ _ s58 rt5)⟩
          have sd8 := sd5.mono s58
          generalize upd B5 q2 (.lst (vs6 ++ [tv])) = B8 at e8 s58 ro8 bD8 r8 sd8
          obtain ⟨oa, rfl, ho⟩ := ro8
          refine vl_var rfl _ (vl_var rfl _ ⟨D, _, rfl, ⟨L5, posI one, oa, hD8, keys_mono e8.s sd8.1, rfl, sqT_mono e8.s ho, szlt (by omega), rfl⟩, ?_⟩)
          refine ⟨_, _, rfl, B8, _, e8.mut hD bD8, s5.trans s58, bD8, upd_same, ⟨keys_put sd8.1 ho, fun x => ?_⟩, ?_⟩
          · rw [dLook_put, tk, ← List.append_assoc, hes, succ_snoc]
            by_cases c : one = x
            · rw [if_pos (by rw [c]), if_pos c, ← c]
              exact .inr ⟨_, rfl, r8⟩
            · rw [if_neg (fun z => c (posI_inj z).symm), if_neg c]
              exact sd8.2 x
          · rw [tk, ← List.append_assoc, hes, List.length_append, List.length_singleton]
            have := dPut_len L5 (posI one) oa (.ref q2)
            omega
      · rintro σ H' ⟨v4, v5, rfl, x⟩
        refine ⟨_, _, _, rfl, ?_⟩
        have e9 : (Gf11.consecutive ch).take (pvs.drop 1).length = Gf11.consecutive ch := List.take_of_length_le (by rw [consec_len, List.length_drop, p2.1]; omega)
        rw [e9] at x
        rw [et2, ← List.append_assoc]
        exact x.less s23
    · rintro σ H' ⟨v3, v4, v5, rfl, x⟩
      refine ⟨_, _, _, _, rfl, ?_⟩
      rw [ch2.1, List.take_length] at x
      rw [et]
      exact x.less (e.b.trans e2.b)
  · rintro σ H' ⟨v2, v3, v4, v5, rfl, ⟨B1, L, e, s1, bD1, hDl, sd, hL⟩⟩
    rw [c2.1, List.take_length] at sd
    refine ⟨_, rfl, ?_⟩
    exact k _ _ _ (e.keep hD bD1 hDl) ⟨D, L, rfl, upd_same, sd.mono (Same.new bD1)⟩
end
end Lg

-- ==== LgP9 ====
set_option Elab.async false
set_option linter.all false
set_option maxRecDepth 100000
set_option maxHeartbeats 4000000
/-! LgP9: reached_from. -/
namespace Lg
open PySem PySem.Spec PyProof.Rows L2
open Gf11 (Line Position Change Hunk State)
theorem s_whileA {t : TT} {t1 : TS} {D : Ends} {σ : L2.St} {H : Hp} (W : Nat → L2.St → Hp → Prop) (m0 : Nat) (h0 : W m0 σ H)
    (hs : ∀ m σ' H', W m σ' H' → t σ' H' fun b H1 => if b = true then ∃ N : L2.St → Hp → Prop, (∀ σ2 H2, N σ2 H2 → ∃ m', m' < m ∧ W m' σ2 H2) ∧ t1 { D with nx := N, ct := N, bk := D.nx } σ' H1 else D.nx σ' H1) : tWhile t t1 D σ H := ⟨W, ⟨m0, h0⟩, hs⟩
theorem s_testA {te : TE} {σ : L2.St} {H : Hp} {Q : Bool → Hp → Prop} (h : te σ H fun x H1 => ∃ k, x = .bl k ∧ Q k H1) : tTest te σ H Q := h
section
variable {P : Program} {w : World} {K : PySem.W.Frag} {mg : Str → Option Value} {base : Heap}
theorem vl_xnotin {td ty : TE} {σ : L2.St} {H : Hp} {a : Addr} {v : V} {x : Position} {L : List DE} (h2 : Vl ty σ H v) (h1 : Vl td σ H (.ref a)) (ha : H a = some (DTO P w a L)) (hk : KeysOk K H L) (hv : PosV K H v x) : Vl (tXNotIn K P w ty td) σ H (.bl (!(dLook L (posI x)).isSome)) := fun Q q => by
  obtain ⟨b, rfl, hb⟩ := hv
  exact h2 _ (h1 _ ⟨a, _, rfl, ⟨L, posI x, b, ha, hk, rfl, hb, rfl⟩, q⟩)
theorem vl_xin {td ty : TE} {σ : L2.St} {H : Hp} {a : Addr} {v : V} {x : Position} {L : List DE} (h2 : Vl ty σ H v) (h1 : Vl td σ H (.ref a)) (ha : H a = some (DTO P w a L)) (hk : KeysOk K H L) (hv : PosV K H v x) : Vl (tXIn K P w ty td) σ H (.bl (dLook L (posI x)).isSome) := fun Q q => by
  obtain ⟨b, rfl, hb⟩ := hv
  exact h2 _ (h1 _ ⟨a, _, rfl, ⟨L, posI x, b, ha, hk, rfl, hb, rfl⟩, q⟩)
theorem vl_xget {td ty : TE} {σ : L2.St} {H : Hp} {a : Addr} {v u : V} {x : Position} {L : List DE} (h1 : Vl td σ H (.ref a)) (h2 : Vl ty σ H v) (ha : H a = some (DTO P w a L)) (hk : KeysOk K H L) (hv : PosV K H v x) (hl : dLook L (posI x) = some u) : Vl (tXGet K P w td ty) σ H u := fun Q q => by
  obtain ⟨b, rfl, hb⟩ := hv
  exact h1 _ (h2 _ ⟨a, u, rfl, ⟨L, posI x, b, ha, hk, rfl, hb, hl.symm⟩, q⟩)
/-- d[k] = v, all known -/
theorem s_xput {td ty tv : TE} {D : Ends} {σ : L2.St} {H : Hp} {a : Addr} {b : Addr} {v : V} {x : Position} {L : List DE} (h0 : Vl tv σ H v) (h1 : Vl td σ H (.ref a)) (h2 : Vl ty σ H (.ref b)) (ha : H a = some (DTO P w a L)) (hk : KeysOk K H L) (hb : SqT K H b ((posI x).map V.int)) (hz : L.length < 16000000)
    (q : D.nx σ (upd H a (DTO P w a (dPut L (posI x) b v)))) : sXPut K P w td ty tv D σ H := h0 _ (h1 _ (h2 _ ⟨a, _, rfl, ⟨L, posI x, b, ha, hk, rfl, hb, szlt hz, rfl⟩, q⟩))
/-- the positions in the dict at v: those reached from x -/
def ReachV (K : PySem.W.Frag) (P : Program) (w : World) (B : Hp) (v : V) (es : Edg) (x : Position) : Prop := ∃ f F, v = .ref f ∧ B f = some (DTO P w f F) ∧ KeysOk K B F ∧ ∀ y, (dLook F (posI y)).isSome = true ↔ Rch es x y
theorem ReachV.mono {B B' : Hp} {v : V} {es : Edg} {x : Position} (s : Same B B') (h : ReachV K P w B v es x) : ReachV K P w B' v es x := by
  obtain ⟨f, F, e, h1, h2, h3⟩ := h
  exact ⟨f, F, e, s _ _ h1, keys_mono s h2, h3⟩
def spReached (K : PySem.W.Frag) (P : Program) (w : World) : Sp := fun vs H Q _ => ∃ (B : Hp) (a : Addr) (L : List DE) (v : V) (es : Edg) (x : Position), vs = [.ref a, v] ∧ Same B H ∧ B a = some (DTO P w a L) ∧ SD K B es L ∧ PosV K B v x ∧ es.length ≤ 100000 ∧ Ret B H Q fun B' v => ReachV K P w B' v es x
/-- the edges whose first is not in the dict -/
def cnt (F : List DE) (es : Edg) : Nat := (es.filter fun e => !(dLook F (posI e.1)).isSome).length
theorem cnt_put {F : List DE} {o : Position} {a : Addr} {v : V} (h : (dLook F (posI o)).isSome = false) : ∀ es : Edg, cnt (dPut F (posI o) a v) es + (succOf es o).length = cnt F es
  | [] => rfl
  | e :: es => by
    have ih := cnt_put (a := a) (v := v) h es
    unfold cnt succOf at ih ⊢
    simp only [List.filter_cons, List.length_map] at ih ⊢
    by_cases c : e.1 = o
    · have h1 : (dLook (dPut F (posI o) a v) (posI e.1)).isSome = true := by
        rw [dLook_put, if_pos (by rw [c])]
        rfl
      have h2 : (dLook F (posI e.1)).isSome = false := by rw [c]; exact h
      simp only [h1, h2, Bool.not_true, Bool.not_false, decide_eq_true c, if_true, List.length_cons]
      simp only [Bool.false_eq_true, if_false]
      omega
    · have h1 : (dLook (dPut F (posI o) a v) (posI e.1)) = dLook F (posI e.1) := by
        rw [dLook_put, if_neg (fun z => c (posI_inj z))]
      rw [h1, decide_eq_false c]
      by_cases d : (dLook F (posI e.1)).isSome = true
      · simp only [d, Bool.not_true, Bool.false_eq_true, if_false]
        exact ih
      · simp only [Bool.not_eq_true] at d
        simp only [d, Bool.not_false, if_true, Bool.false_eq_true, if_false, List.length_cons]
        omega
theorem ok_reached_from (T : Txt K mg) : DOk P w K mg base CX0 1 (gad K "reached_from") p_reached_from (spReached K P w) := by
  refine ok_of_reached_from T (fun vs H Q E h => ?_) fun vs H Q E h => ?_
  · obtain ⟨B, a, L, v, es, x, rfl, _⟩ := h
    rfl
  obtain ⟨B, a, L, v, es, x, rfl, hB, ha, sd, hv, hz, k⟩ := h
  refine s_seq (s_par (s_cons fun fa hfa => s_cons (s_cb (s_cons ?_))))
  have e0 : Ext B H B (upd H fa (DTO P w fa [])) := (Ext.refl hB).tmp hfa
  have bfa := hB.free hfa
  refine s_get2 e0.s (vl_var rfl) (e0.h _ _ (hB _ _ ha)) sd (fun _ _ => vl_var rfl) hv fun H2 pl vs e1 hp al => ?_
  refine ⟨pl, vs, rfl, .inl (SqL.of hp), fun wa hwa => ⟨_, _, rfl, ?_⟩⟩
  have e2 := (e0.trans e1).tmp (o := .lst vs) hwa
  have hf2 : (upd H2 wa (.lst vs)) fa = some (DTO P w fa []) := Same.new hwa _ _ (e1.h _ _ upd_same)
  have bwa : B wa = none := (e0.trans e1).s.free hwa
  have wf : wa ≠ fa := fun z => by
    rw [z, e1.h _ _ upd_same] at hwa
    cases hwa
  have hwH : H wa = none := (e0.trans e1).h.free hwa
  dsimp only
  have sl : (succOf es x).length ≤ es.length := by
    unfold succOf
    rw [List.length_map]
    exact List.length_filter_le _ _
  refine s_seq (s_whileA (fun m σ H' => ∃ (F : List DE) (wvs : List V) (ws : List Position) (v4 : Option V), σ = [some (.ref a), some v, some (.ref fa), some (.ref wa), v4] ∧ Ext B H B H' ∧ H' fa = some (DTO P w fa F) ∧ H' wa = some (.lst wvs) ∧ KeysOk K B F ∧ All2 (PosV K B) wvs ws ∧
      (∀ y, (dLook F (posI y)).isSome = true → Rch es x y) ∧ (∀ y ∈ ws, Rch es x y) ∧ (∀ u y, u = x ∨ (dLook F (posI u)).isSome = true → (u, y) ∈ es → (dLook F (posI y)).isSome = true ∨ y ∈ ws) ∧
      m = cnt F es + ws.length ∧ F.length + m ≤ 2 * es.length) (cnt [] es + (succOf es x).length) ?_ ?_)
  · refine ⟨[], vs, succOf es x, none, rfl, e2, hf2, upd_same, fun e he => (nomatch he), al, fun y hy => (by cases hy), fun y hy => .one (mem_succ.mp hy), fun u y hu he => ?_, rfl, ?_⟩
    · rcases hu with rfl | hu
      · exact .inr (mem_succ.mpr he)
      · cases hu
    · have : cnt [] es ≤ es.length := List.length_filter_le _ _
      show 0 + _ ≤ _
      omega
  · rintro m σ H' ⟨F, wvs, ws, v4, rfl, e, hF, hW, hk, al, s1, s2, cl, rfl, hm⟩
    refine s_testA (s_neNil (l := ws.map posI) (vl_var rfl) hW (pos_tup al) e.s fun q hq => ⟨_, rfl, ?_⟩)
    have e3 := e.tmp (o := .lst []) hq
    have hF3 := Same.new (o := .lst []) hq _ _ hF
    have hW3 := Same.new (o := .lst []) hq _ _ hW
    generalize upd H' q (.lst []) = H3 at e3 hF3 hW3
    rw [List.isEmpty_map]
    cases hem : ws.isEmpty with
    | true =>
      refine iteF ⟨_, rfl, ?_⟩
      have hws : ws = [] := List.isEmpty_iff.mp hem
      have bF : B fa = none := bfa
      refine k _ _ _ (e3.keep hfa bF hF3) ⟨fa, F, rfl, upd_same, keys_mono (Same.new bF) hk, fun y => ⟨s1 y, fun r => ?_⟩⟩
      induction r with
      | one h =>
        rcases cl _ _ (.inl rfl) h with h | h
        · exact h
        · rw [hws] at h
          cases h
      | snoc _ h ih =>
        rcases cl _ _ (.inr ih) h with h | h
        · exact h
        · rw [hws] at h
          cases h
    | false =>
      refine iteT ⟨_, fun σ2 H2 z => z, ?_⟩
      have hne : ws ≠ [] := fun z => by
        rw [z] at hem
        cases hem
      have hpos : 0 < ws.length := List.length_pos_iff.mpr hne
      obtain ⟨o, ho⟩ : ∃ o, ws[ws.length - 1]? = some o := ⟨_, List.getElem?_eq_getElem (by omega)⟩
      obtain ⟨ov, hov, ro⟩ := al.get' ho
      rw [← al.1] at hov
      have hdl : ws = ws.dropLast ++ [o] := by
        conv => lhs; rw [← List.take_length (l := ws), show ws.length = ws.length - 1 + 1 by omega, List.take_add_one, ho]
        rw [List.dropLast_eq_take]
        rfl
      refine s_seq (s_asgN ⟨_, rfl, .inl ⟨rfl, _, SqL.of hW3⟩, wa, wvs, ov, rfl, rfl, hW3, hov, ?_⟩)
      have al4 : All2 (PosV K B) wvs.dropLast ws.dropLast := by
        rw [List.dropLast_eq_take, List.dropLast_eq_take, al.1]
        exact al.take _
      have e4 := e3.mut (o := .lst wvs.dropLast) hwH bwa
      have hF4 : (upd H3 wa (.lst wvs.dropLast)) fa = some (DTO P w fa F) := (upd_ne (Ne.symm wf)).trans hF3
      have hW4 : (upd H3 wa (.lst wvs.dropLast)) wa = some (.lst wvs.dropLast) := upd_same
      generalize upd H3 wa (.lst wvs.dropLast) = H4 at e4 hF4 hW4
      have mo : o ∈ ws := List.mem_of_getElem? ho
      have len : ws.dropLast.length + 1 = ws.length := by rw [List.length_dropLast]; omega
      have md : ∀ y, y ∈ ws → y ∈ ws.dropLast ∨ y = o := fun y hy => by
        rw [hdl] at hy
        rcases List.mem_append.mp hy with h | h
        · exact .inl h
        · exact .inr (List.mem_singleton.mp h)
      have ml : ∀ y, y ∈ ws.dropLast → y ∈ ws := fun y hy => by
        rw [hdl]
        exact List.mem_append_left _ hy
      dsimp only
      refine s_if (tl_B (vl_xnotin (x := o) (vl_var rfl) (vl_var rfl) hF4 (keys_mono e4.s hk) (mono_pos _ _ _ _ e4.s ro))) (fun hb => ?_) fun hb => ?_
      · have hnF : (dLook F (posI o)).isSome = false := by
          cases c : (dLook F (posI o)).isSome with
          | true =>
            rw [c] at hb
            cases hb
          | false => rfl
        obtain ⟨oa, rfl, hoa⟩ := ro
        have hcnt := cnt_put (a := oa) (v := .bl true) hnF es
        refine s_seq (s_xput (x := o) vl_c (vl_var rfl) (vl_var rfl) hF4 (keys_mono e4.s hk) (sqT_mono e4.s hoa) (by omega) ?_)
        have e5 := e4.mut (o := DTO P w fa (dPut F (posI o) oa (.bl true))) hfa bfa
        have hF5 : (upd H4 fa (DTO P w fa (dPut F (posI o) oa (.bl true)))) fa = some _ := upd_same
        have hW5 : (upd H4 fa (DTO P w fa (dPut F (posI o) oa (.bl true)))) wa = some (.lst wvs.dropLast) := (upd_ne wf).trans hW4
        have ha5 := e5.s _ _ ha
        generalize upd H4 fa (DTO P w fa (dPut F (posI o) oa (.bl true))) = H5 at e5 hF5 hW5 ha5
        refine ⟨_, rfl, .inl ⟨rfl, _, SqL.of hW5⟩, s_cons ?_⟩
        refine s_get2 e5.s (vl_var rfl) ha5 sd (fun _ _ => vl_var rfl) ⟨oa, rfl, hoa⟩ fun H6 pl2 zs e6 hp6 al6 => ?_
        have szs : zs.length ≤ es.length := by
          rw [al6.1]
          unfold succOf
          rw [List.length_map]
          exact List.length_filter_le _ _
        have wl : wvs.dropLast.length ≤ 2 * es.length := by
          rw [al4.1]
          omega
        refine ⟨wa, pl2, _, _, rfl, rfl, e6.h _ _ hW5, hp6, szl (by omega), ?_⟩
        have e7 := (e5.trans e6).mut (o := .lst (wvs.dropLast ++ zs)) hwH bwa
        refine ⟨cnt (dPut F (posI o) oa (.bl true)) es + (ws.dropLast ++ succOf es o).length, ?_, dPut F (posI o) oa (.bl true), _, ws.dropLast ++ succOf es o, _, rfl, e7, (upd_ne (Ne.symm wf)).trans (e6.h _ _ hF5), upd_same, keys_put hk hoa, al4.append al6, fun y hy => ?_, fun y hy => ?_, fun u y hu he => ?_, rfl, ?_⟩
        · rw [List.length_append]
          omega
        · rw [dLook_put] at hy
          by_cases c : posI y = posI o
          · rw [posI_inj c]
            exact s2 _ mo
          · rw [if_neg c] at hy
            exact s1 _ hy
        · rcases List.mem_append.mp hy with h | h
          · exact s2 _ (ml _ h)
          · exact .snoc (s2 _ mo) (mem_succ.mp h)
        · have put : ∀ z, (dLook F (posI z)).isSome = true ∨ z = o → (dLook (dPut F (posI o) oa (.bl true)) (posI z)).isSome = true := fun z hz => by
            rw [dLook_put]
            by_cases c : posI z = posI o
            · rw [if_pos c]
              rfl
            · rw [if_neg c]
              rcases hz with h | h
              · exact h
              · exact absurd (by rw [h]) c
          have old : u = x ∨ (dLook F (posI u)).isSome = true → (dLook (dPut F (posI o) oa (.bl true)) (posI y)).isSome = true ∨ y ∈ ws.dropLast ++ succOf es o := fun h => by
            rcases cl u y h he with h | h
            · exact .inl (put y (.inl h))
            · rcases md y h with h | h
              · exact .inr (List.mem_append_left _ h)
              · exact .inl (put y (.inr h))
          rcases hu with hu | hu
          · exact old (.inl hu)
          · rw [dLook_put] at hu
            by_cases c : posI u = posI o
            · rw [posI_inj c] at he
              exact .inr (List.mem_append_right _ (mem_succ.mpr he))
            · rw [if_neg c] at hu
              exact old (.inr hu)
        · rw [List.length_append]
          have := dPut_len F (posI o) oa (.bl true)
          omega
      · have hyF : (dLook F (posI o)).isSome = true := by
          cases c : (dLook F (posI o)).isSome with
          | true => rfl
          | false =>
            rw [c] at hb
            cases hb
        refine ⟨cnt F es + ws.dropLast.length, by omega, F, _, ws.dropLast, _, rfl, e4, hF4, hW4, hk, al4, s1, fun y hy => s2 y (ml y hy), fun u y hu he => ?_, rfl, by omega⟩
        rcases cl u y hu he with h | h
        · exact .inl h
        · rcases md y h with h | h
          · exact .inr h
          · rw [h]
            exact .inl hyF
end
end Lg

-- ==== LgP10 ====
set_option Elab.async false
set_option linter.all false
set_option maxRecDepth 100000
set_option maxHeartbeats 4000000
/-! LgP10: visible_of. -/
namespace Lg
open PySem PySem.Spec PyProof.Rows L2
open Gf11 (Line Position Change Hunk State)
theorem s_ifB {te : TE} {t1 t2 : TS} {D : Ends} {σ : L2.St} {H : Hp} (h : te σ H fun x H1 => ∃ k, x = .bl k ∧ if k = true then t1 D σ H1 else t2 D σ H1) : tIfS (tB te) t1 t2 D σ H := h
def delN (ncs : List (Nat × Change)) : List Position := ncs.flatMap fun c => c.2.deleted
def allN (ncs : List (Nat × Change)) : List Position := ncs.flatMap fun c => (List.range (Gf11.insertedLines c.2).length).map fun i => Position.line c.1 i
def visN (ncs : List (Nat × Change)) : List Position := (allN ncs).filter fun x => !decide (x ∈ delN ncs)
def Asc (ncs : List (Nat × Change)) : Prop := ncs.Pairwise fun c d => c.1 < d.1
theorem allN_plt : ∀ {ncs : List (Nat × Change)}, Asc ncs → (allN ncs).Pairwise plt
  | [], _ => .nil
  | c :: ncs, h => by
    rw [Asc, List.pairwise_cons] at h
    show ((List.range (Gf11.insertedLines c.2).length).map (fun i => Position.line c.1 i) ++ allN ncs).Pairwise plt
    rw [List.pairwise_append]
    refine ⟨?_, allN_plt h.2, fun x hx y hy => ?_⟩
    · rw [List.pairwise_map, List.pairwise_iff_getElem]
      intro i j hi hj hij
      simp only [List.getElem_range]
      exact .inr ⟨rfl, hij⟩
    · obtain ⟨i, _, rfl⟩ := List.mem_map.mp hx
      obtain ⟨d, hd, hy⟩ := List.mem_flatMap.mp hy
      obtain ⟨j, _, rfl⟩ := List.mem_map.mp hy
      exact .inl (h.1 d hd)
section
variable {P : Program} {w : World} {K : PySem.W.Frag} {mg : Str → Option Value} {base : Heap}
/-- a position's tuple as it was laid -/
def PosT : Rp Position := fun B v x => ∃ t, v = .ref t ∧ B t = some (.tup ((posI x).map V.int))
theorem mono_posT : Mono PosT := fun _ _ _ _ s ⟨t, e, h⟩ => ⟨t, e, s _ _ h⟩
theorem PosT.pos {B : Hp} {v : V} {x : Position} (h : PosT B v x) : PosV K B v x := by
  obtain ⟨t, e, h⟩ := h
  exact ⟨t, e, SqT.of h⟩
def keyOf (H : Hp) (v : V) : Int × Int := match v with
  | .ref t => match H t with
    | some (.tup [.int a, .int b]) => (a, b)
    | _ => (0, 0)
  | _ => (0, 0)
theorem keyOf_pos {H : Hp} {v : V} {x : Position} (h : PosT H v x) : keyOf H v = (h0 x, h1 x) := by
  obtain ⟨t, rfl, h⟩ := h
  rw [posI_two] at h
  unfold keyOf
  dsimp only
  rw [h]
  rfl
/-- laid in order, sorted changes nothing -/
theorem sorted_same {H : Hp} {vs ys : List V} {ps : List Position} (al : All2 (PosT H) vs ps) (hp : ps.Pairwise plt) (h1 : SrtO.Srtd (ltP (keyOf H)) ys) (h2 : SrtO.Stb (ltP (keyOf H)) ys vs) : ys = vs := by
  have O : SrtO.Swo (ltP (keyOf H)) := by
    constructor
    · intro x y h
      have a := SrtO.lexB_iff.mp h
      refine SrtO.lexB_no.mpr ?_
      omega
    · intro x y z ha hb
      have a := SrtO.lexB_no.mp ha
      have b := SrtO.lexB_no.mp hb
      refine SrtO.lexB_no.mpr ?_
      omega
  refine SrtO.stb_uniq O h1 ?_ h2
  rw [SrtO.Srtd, List.pairwise_iff_getElem]
  intro i j hi hj hij
  have hi' : i < ps.length := by rw [← al.1]; exact hi
  have hj' : j < ps.length := by rw [← al.1]; exact hj
  have r1 := al.2 i vs[i] ps[i] (List.getElem?_eq_getElem hi) (List.getElem?_eq_getElem hi')
  have r2 := al.2 j vs[j] ps[j] (List.getElem?_eq_getElem hj) (List.getElem?_eq_getElem hj')
  have q := List.pairwise_iff_getElem.mp hp i j hi' hj' hij
  show SrtO.lexB _ _ = false
  rw [keyOf_pos r1, keyOf_pos r2]
  refine SrtO.lexB_no.mpr ?_
  generalize ps[i] = x at q
  generalize ps[j] = y at q
  cases x with
  | line p a =>
    cases y with
    | line p2 b =>
      have q : p < p2 ∨ (p = p2 ∧ a < b) := q
      show ¬ ((p2 : Int) < (p : Int) ∨ ((p2 : Int) = (p : Int) ∧ (b : Int) < (a : Int)))
      omega
    | _ => exact absurd q (fun z => z)
  | _ => exact absurd q (fun z => z)
/-- a dict's keys are those positions -/
def KeySet (K : PySem.W.Frag) (B : Hp) (L : List DE) (ps : List Position) : Prop := KeysOk K B L ∧ ∀ x, (dLook L (posI x)).isSome = decide (x ∈ ps)
theorem KeySet.mono {B B' : Hp} {L : List DE} {ps : List Position} (s : Same B B') (h : KeySet K B L ps) : KeySet K B' L ps := ⟨keys_mono s h.1, h.2⟩
theorem KeySet.put {B : Hp} {L : List DE} {ps : List Position} {p : Position} {a : Addr} {v : V} (h : KeySet K B L ps) (ha : SqT K B a ((posI p).map V.int)) : KeySet K B (dPut L (posI p) a v) (ps ++ [p]) :=
  ⟨keys_put h.1 ha, fun x => by
    rw [dLook_put]
    by_cases c : x = p
    · rw [if_pos (by rw [c]), c]
      simp
    · rw [if_neg (fun z => c (posI_inj z)), h.2 x]
      simp [c]⟩
def spVisible (K : PySem.W.Frag) : Sp := fun vs H Q _ => ∃ (B : Hp) (v : V) (ncs : List (Nat × Change)), vs = [v] ∧ Same B H ∧ LstV (ChangeV K) B v ncs ∧ Asc ncs ∧ (delN ncs).length ≤ 100000 ∧ (allN ncs).length ≤ 100000 ∧ Ret B H Q fun B' v => LstV (PosV K) B' v (visN ncs)
/-- the turn's lines -/
def linesTo (c : Nat × Change) (j : Nat) : List Position := (List.range j).map fun i => Position.line c.1 i
theorem ok_visible_of (T : Txt K mg) : DOk P w K mg base CX0 1 (gad K "visible_of") p_visible_of (spVisible K) := by
  refine ok_of_visible_of T (fun vs H Q E h => ?_) fun vs H Q E h => ?_
  · obtain ⟨B, v, ncs, rfl, _⟩ := h
    rfl
  obtain ⟨B, v, ncs, rfl, hB, ⟨va, cvs, rfl, c1, c2⟩, asc, hd, hz, k⟩ := h
  refine s_seq (s_asgN fun D hD => ?_)
  have bD := hB.free hD
  have e0 : Ext B H B (upd H D (DTO P w D [])) := (Ext.refl hB).tmp hD
  dsimp only
  refine s_seq (s_forL (xs := cvs) (vl_var rfl) (SqL.of (e0.h _ _ (hB _ _ c1))) (fun i σ H' => ∃ v2 v4 L, σ = [some (.ref va), some (.ref D), v2, none, v4, none] ∧ Ext B H B H' ∧ H' D = some (DTO P w D L) ∧ KeySet K B L (delN (ncs.take i)) ∧ L.length ≤ (delN (ncs.take i)).length) ?_ ?_ ?_ ?_)
  · exact ⟨none, none, [], rfl, e0, upd_same, ⟨fun e he => (nomatch he), fun x => rfl⟩, Nat.le_refl _⟩
  · rintro i σ H' _ ⟨v2, v4, L, rfl, e, _⟩
    exact SqL.of (e.h _ _ (hB _ _ c1))
  · rintro i cv σ H' hi ⟨v2, v4, L, rfl, e, hDl, ks, hL⟩
    obtain ⟨c, hc, ⟨ca, dx, hs, ds, ls, rfl, ho, _, ⟨da, dvs, rfl, d1, d2⟩, _⟩⟩ := c2.get hi
    have et : delN (ncs.take (i + 1)) = delN (ncs.take i) ++ c.2.deleted := flat_at hc
    have le1 : (delN (ncs.take (i + 1))).length ≤ 100000 := Nat.le_trans (flat_le _ _ _) hd
    rw [et, List.length_append] at le1
    refine s_forL (xs := dvs) (vl_fld (vl_var rfl) (e.s _ _ ho) T.cl_Change T.a_Change_deleted fC_deleted) (SqL.of (e.s _ _ d1))
      (fun j σ H' => ∃ v4 L, σ = [some (.ref va), some (.ref D), some (.ref ca), none, v4, none] ∧ Ext B H B H' ∧ H' D = some (DTO P w D L) ∧ KeySet K B L (delN (ncs.take i) ++ c.2.deleted.take j) ∧ L.length ≤ (delN (ncs.take i) ++ c.2.deleted.take j).length) ?_ ?_ ?_ ?_
    · refine ⟨v4, L, rfl, e, hDl, ?_, ?_⟩
      · rw [List.take_zero, List.append_nil]
        exact ks
      · rw [List.take_zero, List.append_nil]
        exact hL
    · rintro j σ H' _ ⟨v4, L, rfl, e, _⟩
      exact SqL.of (e.s _ _ d1)
    · rintro j x σ H' hj ⟨v4, L, rfl, e, hDl, ks, hL⟩
      obtain ⟨p, hp, pa, rfl, hpa⟩ := d2.get hj
      have tk : c.2.deleted.take (j + 1) = c.2.deleted.take j ++ [p] := by rw [List.take_add_one, hp]; rfl
      have lt : (c.2.deleted.take j).length ≤ c.2.deleted.length := by rw [List.length_take]; omega
      refine s_xput (x := p) vl_c (vl_var rfl) (vl_var rfl) hDl (keys_mono e.s ks.1) (sqT_mono e.s hpa) ?_ ⟨_, _, rfl, e.mut hD bD, upd_same, ?_, ?_⟩
      · rw [List.length_append] at hL
        omega
      · rw [tk, ← List.append_assoc]
        exact ks.put hpa
      · rw [tk, ← List.append_assoc, List.length_append, List.length_singleton]
        have := dPut_len L (posI p) pa (.bl true)
        omega
    · rintro σ H' ⟨v4, L, rfl, e, hDl, ks, hL⟩
      rw [d2.1, List.take_length, ← et] at ks hL
      exact ⟨_, _, L, rfl, e, hDl, ks, hL⟩
  · rintro σ H' ⟨v2, v4, L, rfl, e, hDl, ks, hL⟩
    rw [c2.1, List.take_length] at ks hL
    dsimp only
    refine s_seq (s_asgN (s_lst al_nil (by show 0 ≤ 1000; decide) fun F hF => ?_))
    have FD : D ≠ F := fun z => by
      rw [← z, hDl] at hF
      cases hF
    have hF0 := e.h.free hF
    have bF := e.s.free hF
    have e1 := e.tmp (o := .lst []) hF
    have hD1 := (upd_ne (o := HO.lst []) FD).trans hDl
    dsimp only
    refine s_seq (s_forL (xs := cvs) (vl_var rfl) (SqL.of (e1.h _ _ (hB _ _ c1))) (fun i σ H' => ∃ B1 v2 v4 v5 fvs, σ = [some (.ref va), some (.ref D), v2, some (.ref F), v4, v5] ∧ Ext B H B1 H' ∧ Same B B1 ∧ B1 F = none ∧ H' D = some (DTO P w D L) ∧ H' F = some (.lst fvs) ∧
      All2 (PosT B1) fvs ((allN (ncs.take i)).filter fun x => !decide (x ∈ delN ncs))) ?_ ?_ ?_ ?_)
    · exact ⟨B, v2, v4, none, [], rfl, e1, Same.refl B, bF, hD1, upd_same, .nil⟩
    · rintro i σ H' _ ⟨B1, v2, v4, v5, fvs, rfl, e, _⟩
      exact SqL.of (e.h _ _ (hB _ _ c1))
    · rintro i cv σ H' hi ⟨B1, v2, v4, v5, fvs, rfl, e, s1, b1, hD2, hF2, al⟩
      obtain ⟨c, hc, ⟨ca, dx, hs, ds, ls, rfl, ho, _, _, ⟨la, lvs, rfl, l1, l2⟩⟩⟩ := c2.get hi
      have et : allN (ncs.take (i + 1)) = allN (ncs.take i) ++ linesTo c (Gf11.insertedLines c.2).length := flat_at hc
      have le1 : (allN (ncs.take (i + 1))).length ≤ 100000 := Nat.le_trans (flat_le _ _ _) hz
      rw [et, List.length_append] at le1
      unfold linesTo at le1
      rw [List.length_map, List.length_range] at le1
      have ho1 := s1 _ _ ho
      have l11 := s1 _ _ l1
      refine s_forR (n := (Gf11.insertedLines c.2).length) (fun Q q => vl_lenL (vl_fld (vl_var rfl) (e.s _ _ ho1) T.cl_Change T.a_Change_lines fC_lines) (SqL.of (e.s _ _ l11)) _ (by rw [l2.1]; exact q)) (by omega)
        (fun j σ H' => ∃ B2 v5 fvs, σ = [some (.ref va), some (.ref D), some (.ref ca), some (.ref F), v4, v5] ∧ Ext B H B2 H' ∧ Same B B2 ∧ B2 F = none ∧ H' D = some (DTO P w D L) ∧ H' F = some (.lst fvs) ∧
          All2 (PosT B2) fvs ((allN (ncs.take i) ++ linesTo c j).filter fun x => !decide (x ∈ delN ncs))) ?_ ?_ ?_
      · refine ⟨B1, v5, fvs, rfl, e, s1, b1, hD2, hF2, ?_⟩
        show All2 (PosT B1) fvs ((allN (ncs.take i) ++ []).filter _)
        rw [List.append_nil]
        exact al
      · rintro j σ H' hj ⟨B2, v5, fvs, rfl, e2, s2, b2, hD3, hF3, al2⟩
        have tk : linesTo c (j + 1) = linesTo c j ++ [.line c.1 j] := by
          unfold linesTo
          rw [List.range_succ, List.map_append]
          rfl
        refine s_ifB (s_tup (al_cons (vl_fld (vl_var rfl) (e2.s _ _ (s2 _ _ ho)) T.cl_Change T.a_Change_number fC_number) (al_cons (vl_var rfl) al_nil)) (by show 2 ≤ 1000; decide) fun t ht => ?_)
        have e3 := e2.tmp (o := .tup [.int (c.1 : Int), .int (j : Int)]) ht
        have hD4 := Same.new (o := .tup [.int (c.1 : Int), .int (j : Int)]) ht _ _ hD3
        have hF4 := Same.new (o := .tup [.int (c.1 : Int), .int (j : Int)]) ht _ _ hF3
        refine ⟨.ref D, rfl, ?_⟩
        refine ⟨D, _, rfl, ⟨L, posI (.line c.1 j), t, hD4, keys_mono (s2.trans e3.s) ks.1, rfl, SqT.of upd_same, rfl⟩, _, rfl, ?_⟩
        rw [ks.2]
        generalize upd H' t (.tup [.int (c.1 : Int), .int (j : Int)]) = H4 at e3 hD4 hF4
        by_cases cm : Position.line c.1 j ∈ delN ncs
        · rw [decide_eq_true cm]
          refine iteF ⟨B2, _, fvs, rfl, e3, s2, b2, hD4, hF4, ?_⟩
          rw [tk, ← List.append_assoc, List.filter_append]
          have q : [Position.line c.1 j].filter (fun x => !decide (x ∈ delN ncs)) = [] := by simp [cm]
          rw [q, List.append_nil]
          exact al2
        · rw [decide_eq_false cm]
          refine iteT ?_
          refine ⟨_, rfl, .inl ⟨rfl, _, SqL.of hF4⟩, s_cons (s_tup (al_cons (vl_fld (vl_var rfl) (e3.s _ _ (s2 _ _ ho)) T.cl_Change T.a_Change_number fC_number) (al_cons (vl_var rfl) al_nil)) (by show 2 ≤ 1000; decide) fun t2 ht2 => ?_)⟩
          have e4 := e3.new (o := .tup [.int (c.1 : Int), .int (j : Int)]) ht2
          have hD5 := Same.new (o := .tup [.int (c.1 : Int), .int (j : Int)]) ht2 _ _ hD4
          have hF5 := Same.new (o := .tup [.int (c.1 : Int), .int (j : Int)]) ht2 _ _ hF4
          have Ft : F ≠ t2 := fun z => by
            rw [← z, hF4] at ht2
            cases ht2
          have b2t := e3.s.free ht2
          have st := Same.new (o := .tup [.int (c.1 : Int), .int (j : Int)]) b2t
          have hlen : fvs.length ≤ 100000 := by
            rw [al2.1]
            refine Nat.le_trans (List.length_filter_le _ _) ?_
            rw [List.length_append]
            unfold linesTo
            rw [List.length_map, List.length_range]
            omega
          refine ⟨F, fvs, .ref t2, rfl, rfl, hF5, szlt (by omega), ?_⟩
          refine ⟨_, _, _, rfl, e4.mut hF0 ((upd_ne Ft).trans b2), s2.trans st, (upd_ne Ft).trans b2, (upd_ne FD).trans hD5, upd_same, ?_⟩
          rw [tk, ← List.append_assoc, List.filter_append]
          have q : [Position.line c.1 j].filter (fun x => !decide (x ∈ delN ncs)) = [.line c.1 j] := by simp [cm]
          rw [q]
          exact (al2.mono fun a b r => mono_posT _ _ _ _ st r).snoc ⟨t2, rfl, upd_same⟩
      · rintro σ H' ⟨B2, v5, fvs, rfl, e2, s2, b2, hD3, hF3, al2⟩
        refine ⟨B2, _, _, _, fvs, rfl, e2, s2, b2, hD3, hF3, ?_⟩
        rw [et]
        exact al2
    · rintro σ H' ⟨B1, v2, v4, v5, fvs, rfl, e, s1, b1, hD2, hF2, al⟩
      rw [c2.1, List.take_length] at al
      have alH := al.mono fun a b r => mono_posT _ _ _ _ e.s r
      refine s_retN (s_cb (s_cons (vl_var rfl _ ⟨F, fvs, keyOf H', rfl, SqL.of hF2, fun x hx => ?_, fun ys p q1 q2 hp => ?_⟩)))
      · obtain ⟨y, hy, t, rfl, ht⟩ := alH.mem hx
        refine ⟨t, rfl, ?_⟩
        rw [keyOf_pos ⟨t, rfl, ht⟩]
        rw [posI_two] at ht
        exact ht
      · have ey := sorted_same alH ((allN_plt asc).filter _) q1 q2
        subst ey
        have bp := e.s.free hp
        exact k _ _ _ (e.new hp) ⟨p, _, rfl, upd_same, al.mono fun a b r => mono_pos _ _ _ _ (Same.new bp) r.pos⟩
end
end Lg

-- ==== LgP11 ====
set_option Elab.async false
set_option linter.all false
set_option maxRecDepth 100000
set_option maxHeartbeats 4000000
/-! LgP11: precedes, next_of, conflicts. -/
namespace Lg
open PySem PySem.Spec PyProof.Rows L2
open Gf11 (Line Position Change Hunk State)
theorem s_ifNB {te : TE} {t1 t2 : TS} {D : Ends} {σ : L2.St} {H : Hp} (h : te σ H fun x H1 => ∃ k, x = .bl k ∧ if (!k) = true then t1 D σ H1 else t2 D σ H1) : tIfS (tNot (tB te)) t1 t2 D σ H := h
def BlV : Rp Bool := fun _ v b => v = .bl b
theorem mono_bl : Mono BlV := fun _ _ _ _ _ h => h
theorem all2_bls {B : Hp} : ∀ {vs : List V} {bs : List Bool}, All2 (BlV B) vs bs → vs = bs.map V.bl
  | [], [], _ => rfl
  | [], _ :: _, h => by cases h.1
  | _ :: _, [], h => by cases h.1
  | v :: vs, n :: ns, h => by
    have h0 : v = .bl n := h.2 0 v n rfl rfl
    have ht : All2 (BlV B) vs ns := ⟨Nat.succ.inj h.1, fun i a b x y => h.2 (i + 1) a b x y⟩
    rw [h0, all2_bls ht]
    rfl
section
variable {P : Program} {w : World} {K : PySem.W.Frag} {mg : Str → Option Value} {base : Heap}
/-- the dict of what is reached from each of ps -/
def RD (K : PySem.W.Frag) (P : Program) (w : World) (B : Hp) (es : Edg) (L : List DE) (ps : List Position) : Prop := KeysOk K B L ∧ ∀ x ∈ ps, ∃ v, dLook L (posI x) = some v ∧ ReachV K P w B v es x
theorem RD.mono {B B' : Hp} {es : Edg} {L : List DE} {ps : List Position} (s : Same B B') (h : RD K P w B es L ps) : RD K P w B' es L ps := ⟨keys_mono s h.1, fun x hx => by
  obtain ⟨v, e, r⟩ := h.2 x hx
  exact ⟨v, e, r.mono s⟩⟩
def RcOk (es : Edg) (ps : List Position) (rc : Position → Position → Bool) : Prop := ∀ x ∈ ps, rc x x = false ∧ ∀ y, x ≠ y → (rc x y = true ↔ Rch es x y)
/-- the order at a, over what stands -/
structure OrdA (K : PySem.W.Frag) (P : Program) (w : World) (B H : Hp) (a ra : Addr) (lv : V) (es : Edg) (ps : List Position) (rc : Position → Position → Bool) : Prop where
  ins : ∃ dx, H a = some (.ins (gad K "Order") dx (fO (.ref ra) lv))
  rd : ∃ L, B ra = some (DTO P w ra L) ∧ RD K P w B es L ps
  rc : RcOk es ps rc
theorem OrdA.ext {B H B' H' : Hp} {a ra : Addr} {lv : V} {es : Edg} {ps : List Position} {rc : Position → Position → Bool} (h : OrdA K P w B H a ra lv es ps rc) (e : Ext B H B' H') : OrdA K P w B' H' a ra lv es ps rc := by
  obtain ⟨⟨dx, h1⟩, ⟨L, h2, h3⟩, h4⟩ := h
  exact ⟨⟨dx, e.h _ _ h1⟩, ⟨L, e.b _ _ h2, h3.mono e.b⟩, h4⟩
theorem OrdA.tmp {B H H' : Hp} {a ra : Addr} {lv : V} {es : Edg} {ps : List Position} {rc : Position → Position → Bool} (h : OrdA K P w B H a ra lv es ps rc) (e : Same H H') : OrdA K P w B H' a ra lv es ps rc := by
  obtain ⟨⟨dx, h1⟩, h2, h4⟩ := h
  exact ⟨⟨dx, e _ _ h1⟩, h2, h4⟩
def spPrec (K : PySem.W.Frag) (P : Program) (w : World) : Sp := fun vs H Q _ => ∃ (B : Hp) (a ra : Addr) (lv u v : V) (es : Edg) (ps : List Position) (rc : Position → Position → Bool) (x y : Position), vs = [.ref a, u, v] ∧ Same B H ∧ OrdA K P w B H a ra lv es ps rc ∧
  x ∈ ps ∧ x ≠ y ∧ PosV K B u x ∧ PosV K B v y ∧ Q (.bl (rc x y)) H
theorem ok_Order_precedes (T : Txt K mg) : DOk P w K mg base CX0 1 (mad K "Order" "precedes") p_Order_precedes (spPrec K P w) := by
  refine ok_of_Order_precedes T (fun vs H Q E h => ?_) fun vs H Q E h => ?_
  · obtain ⟨B, a, ra, lv, u, v, es, ps, rc, x, y, rfl, _⟩ := h
    rfl
  obtain ⟨B, a, ra, lv, u, v, es, ps, rc, x, y, rfl, hB, ⟨⟨dx, ha⟩, ⟨L, hr, kr, hL⟩, hrc⟩, hx, ne, hu, hv, q⟩ := h
  obtain ⟨d, hd, f, F, rfl, hf, kf, hF⟩ := hL x hx
  have e : (dLook F (posI y)).isSome = rc x y := by
    rw [Bool.eq_iff_iff, hF y, (hrc x hx).2 y ne]
  refine s_retN (vl_xin (x := y) (vl_var rfl) (vl_xget (x := x) (vl_fld (vl_var rfl) ha T.cl_Order T.a_Order_reached fO_reached) (vl_var rfl) (hB _ _ hr) (keys_mono hB kr) (mono_pos _ _ _ _ hB hu) hd) (hB _ _ hf) (keys_mono hB kf) (mono_pos _ _ _ _ hB hv) _ ?_)
  rw [e]
  exact q
theorem vl_prec {B H : Hp} {σ : L2.St} {ta tb tc : TE} {a ra : Addr} {lv u v : V} {es : Edg} {ps : List Position} {rc : Position → Position → Bool} {x y : Position} (ha : Vl ta σ H (.ref a)) (hb : Vl tb σ H u) (hc : Vl tc σ H v) (s : Same B H) (o : OrdA K P w B H a ra lv es ps rc)
    (hx : x ∈ ps) (ne : x ≠ y) (hu : PosV K B u x) (hv : PosV K B v y) : Vl (tMeth (gad K "Order") "precedes" (spPrec K P w) [] E0 ta (tCons tb (tCons tc tNil))) σ H (.bl (rc x y)) := fun Q q => by
  have o' := o
  obtain ⟨⟨dx, h1⟩, _, _⟩ := o'
  exact s_meth ha h1 fO_precedes (al_cons hb (al_cons hc al_nil)) ⟨B, a, ra, lv, u, v, es, ps, rc, x, y, rfl, s, o, hx, ne, hu, hv, q⟩

/-! ### next_of -/
def spNext (K : PySem.W.Frag) (P : Program) (w : World) : Sp := fun vs H Q _ => ∃ (B : Hp) (a ra : Addr) (lv u : V) (es : Edg) (ps left : List Position) (rc : Position → Position → Bool) (z : Position), vs = [.ref a, u] ∧ Same B H ∧ OrdA K P w B H a ra lv es ps rc ∧
  LstV (PosV K) B u left ∧ (∀ x ∈ left, x ∈ ps) ∧ left.length ≤ 100000 ∧ firstOf rc left = some z ∧ Ret B H Q fun B' v => PosV K B' v z
theorem ok_Order_next_of (T : Txt K mg) : DOk P w K mg base CX0 2 (mad K "Order" "next_of") p_Order_next_of (spNext K P w) := by
  refine ok_of_Order_next_of T (ok_Order_precedes T) (fun vs H Q E h => ?_) fun vs H Q E h => ?_
  · obtain ⟨B, a, ra, lv, u, es, ps, left, rc, z, rfl, _⟩ := h
    rfl
  obtain ⟨B, a, ra, lv, u, es, ps, left, rc, z, rfl, hB, hO, ⟨la, lvs, rfl, l1, l2⟩, sub, hz, hf, k⟩ := h
  refine s_seq (s_forL (xs := lvs) (vl_var rfl) (SqL.of (hB _ _ l1)) (fun i σ H' => ∃ B1 v2 v3, σ = [some (.ref a), some (.ref la), v2, v3] ∧ Ext B H B1 H' ∧ firstOf rc left = (left.drop i).find? fun x => left.all fun y => !rc y x) ?_ ?_ ?_ ?_)
  · exact ⟨B, none, none, rfl, Ext.refl hB, by rw [List.drop_zero]; rfl⟩
  · rintro i σ H' _ ⟨B1, v2, v3, rfl, e, _⟩
    exact SqL.of (e.h _ _ (hB _ _ l1))
  · rintro i xv σ H' hi ⟨B1, v2, v3, rfl, e, hq⟩
    obtain ⟨x, hx, rx⟩ := l2.get hi
    have hxps := sub x (List.mem_of_getElem? hx)
    have rx1 := mono_pos _ _ _ _ e.b rx
    have al1 := l2.mono fun a b r => mono_pos _ _ _ _ e.b r
    have ll := (e.b _ _ l1)
    refine s_ifNB (s_cb (s_cons ?_))
    refine s_lcL (B := B1) (R := BlV) (xs := lvs) (ys := fun i => (left[i]?).bind fun y => if y = x then none else some (rc y x)) e.s mono_bl (vl_var rfl) (SqL.of (e.s _ _ ll)) (by rw [l2.1]; omega) (fun _ => rfl) (fun j yv B2 H2 hj e2 => ?_) fun B2 H2 bv e2 r2 => ?_
    · obtain ⟨y, hy, ry⟩ := al1.get hj
      refine ⟨_, tl_test (vl_neT (vl_var rfl) (vl_var rfl) ry rx1 (e2.b.trans e2.s)), fun hb Q2 k2 => ?_, fun hb => ?_⟩
      · have ne : y ≠ x := fun z => by
          rw [z, decide_eq_true rfl] at hb
          cases hb
        refine vl_prec (es := es) (ps := ps) (rc := rc) (vl_var rfl) (vl_var rfl) (vl_var rfl) (e2.b.trans e2.s) ((hO.ext e).tmp e2.h) (sub y (List.mem_of_getElem? hy)) ne ry rx1 _ (k2 _ _ _ (Ext.refl e2.s) ⟨rc y x, rfl, ?_⟩)
        rw [hy]
        show (if y = x then none else some (rc y x)) = _
        rw [if_neg ne]
      · have e0 : y = x := by
          have hb' : decide (posI y = posI x) = true := by
            cases c : decide (posI y = posI x) with
            | true => rfl
            | false =>
              rw [c] at hb
              cases hb
          exact posI_inj (of_decide_eq_true hb')
        rw [hy]
        show (if y = x then none else some (rc y x)) = _
        rw [if_pos e0]
    · rw [l2.1, filterMap_bind] at r2
      obtain ⟨ba, bvs, rfl, b1, b2⟩ := r2
      rw [all2_bls b2] at b1
      refine ⟨ba, _, rfl, SqL.of (e2.s _ _ b1), _, rfl, ?_⟩
      have key : (left.filterMap fun y => if y = x then none else some (rc y x)).any id = !(left.all fun y => !rc y x) := by
        have self := (hO.rc x hxps).1
        clear hf hq b1 b2 l2 al1 sub hx hz
        induction left with
        | nil => rfl
        | cons y l ih =>
          rw [List.filterMap_cons, List.all_cons]
          by_cases c : y = x
          · rw [if_pos c, c, self]
            simpa using ih
          · rw [if_neg c]
            simp only [List.any_cons, id]
            rw [ih]
            cases rc y x <;> simp
      rw [key, Bool.not_not]
      have dr := drop_at hx
      rw [dr, List.find?_cons] at hq
      cases hc : (left.all fun y => !rc y x) with
      | true =>
        rw [hc] at hq
        refine iteT ⟨_, rfl, ?_⟩
        rw [hf] at hq
        obtain rfl := Option.some.inj hq
        exact k _ _ _ (e.trans e2) (mono_pos _ _ _ _ e2.b rx1)
      | false =>
        rw [hc] at hq
        exact iteF ⟨B2, _, _, rfl, e.trans e2, hq⟩
  · rintro σ H' ⟨B1, v2, v3, rfl, e, hq⟩
    rw [l2.1, List.drop_length] at hq
    rw [hf] at hq
    cases hq

/-! ### conflicts -/
def conflOf (rc : Position → Position → Bool) (l : List Position) : List (Position × Position) := (Gf11.pairs l).filter fun x => !(rc x.1 x.2 || rc x.2 x.1)
def PairV (K : PySem.W.Frag) : Rp (Position × Position) := fun B v x => ∃ t u y, v = .ref t ∧ SqT K B t [u, y] ∧ PosV K B u x.1 ∧ PosV K B y x.2
theorem mono_pair : Mono (PairV K) := fun _ _ _ _ s ⟨t, u, y, e, h, p, q⟩ => ⟨t, u, y, e, sqT_mono s h, mono_pos _ _ _ _ s p, mono_pos _ _ _ _ s q⟩
def spConfl (K : PySem.W.Frag) (P : Program) (w : World) : Sp := fun vs H Q _ => ∃ (B : Hp) (a ra : Addr) (lv : V) (es : Edg) (ps ls : List Position) (rc : Position → Position → Bool), vs = [.ref a] ∧ Same B H ∧ OrdA K P w B H a ra lv es ps rc ∧
  LstV (PosV K) B lv ls ∧ (∀ x ∈ ls, x ∈ ps) ∧ ls.Nodup ∧ ls.length ≤ 1000 ∧ Ret B H Q fun B' v => LstV (PairV K) B' v (conflOf rc ls)
theorem pairsTo_len {A : Type} (l : List A) : ∀ (n : Nat), (pairsTo l n).length ≤ n * l.length
  | 0 => Nat.zero_le _
  | n + 1 => by
    have ih := pairsTo_len l n
    unfold pairsTo at ih ⊢
    rw [List.range_succ, List.flatMap_append, List.length_append, Nat.add_mul, Nat.one_mul]
    refine Nat.add_le_add ih ?_
    rw [List.flatMap_cons, List.flatMap_nil, List.append_nil]
    cases l[n]? with
    | none => exact Nat.zero_le _
    | some x =>
      show (List.map _ _).length ≤ _
      rw [List.length_map, List.length_drop]
      omega
theorem ok_Order_conflicts (T : Txt K mg) : DOk P w K mg base CX0 2 (mad K "Order" "conflicts") p_Order_conflicts (spConfl K P w) := by
  refine ok_of_Order_conflicts T (ok_Order_precedes T) (fun vs H Q E h => ?_) fun vs H Q E h => ?_
  · obtain ⟨B, a, ra, lv, es, ps, ls, rc, rfl, _⟩ := h
    rfl
  obtain ⟨B, a, ra, lv, es, ps, ls, rc, rfl, hB, hO, ⟨la, lvs, rfl, l1, l2⟩, sub, nd, hz, k⟩ := h
  refine s_seq (s_asgN (s_lst al_nil (by show 0 ≤ 1000; decide) fun F hF => ?_))
  have bF := hB.free hF
  have e0 : Ext B H B (upd H F (.lst [])) := (Ext.refl hB).tmp hF
  have hO' := hO
  obtain ⟨⟨dx, ho⟩, _, _⟩ := hO'
  dsimp only
  refine s_seq (s_forE (xs := lvs) (vl_fld (vl_var rfl) (e0.h _ _ ho) T.cl_Order T.a_Order_lines fO_lines) (SqL.of (e0.h _ _ (hB _ _ l1)))
    (fun i σ H' => ∃ B1 fvs v2 v3 v4, σ = [some (.ref a), some (.ref F), v2, v3, v4] ∧ Ext B H B1 H' ∧ B1 F = none ∧ H' F = some (.lst fvs) ∧ All2 (PairV K B1) fvs ((pairsTo ls i).filter fun x => !(rc x.1 x.2 || rc x.2 x.1))) ?_ ?_ ?_ ?_)
  · exact ⟨B, [], none, none, none, rfl, e0, bF, upd_same, .nil⟩
  · rintro i σ H' _ ⟨B1, fvs, v2, v3, v4, rfl, e, _⟩
    exact SqL.of (e.h _ _ (hB _ _ l1))
  · rintro i xv σ H' t hi ⟨B1, fvs, v2, v3, v4, rfl, e, b1, hF1, al⟩ ht
    obtain ⟨x, hx, rx⟩ := l2.get hi
    have hil := (List.getElem?_eq_some_iff.mp hx).1
    have hF2 := Same.new (o := .tup [.int (i : Int), xv]) ht _ _ hF1
    have e2 := e.tmp (o := .tup [.int (i : Int), xv]) ht
    refine g_two (SqT.of upd_same) ?_
    generalize upd H' t (.tup [.int (i : Int), xv]) = H2 at hF2 e2
    refine s_cut (lo := some ((i + 1 : Nat) : Int)) (hi := none) (vl_fld (vl_var rfl) (e2.h _ _ ho) T.cl_Order T.a_Order_lines fO_lines) (po_vl (vl_add (n := i) (m := 1) (vl_var rfl) vl_c)) po_no (SqL.of (e2.h _ _ (hB _ _ l1))) fun q hq => ?_
    rw [cut_from]
    have Fq : F ≠ q := fun z => by
      rw [← z, hF2] at hq
      cases hq
    have e3 := e2.new (o := .lst (lvs.drop (i + 1))) hq
    have bq := e2.s.free hq
    have sq := Same.new (o := .lst (lvs.drop (i + 1))) bq
    have hF3 := (upd_ne (o := HO.lst (lvs.drop (i + 1))) Fq).trans hF2
    have b3 : (upd B1 q (.lst (lvs.drop (i + 1)))) F = none := (upd_ne Fq).trans b1
    have q3 : (upd B1 q (.lst (lvs.drop (i + 1)))) q = some (.lst (lvs.drop (i + 1))) := upd_same
    refine ⟨q, rfl, ⟨_, SqL.of upd_same⟩, ?_⟩
    generalize upd B1 q (.lst (lvs.drop (i + 1))) = B3 at e3 sq b3 q3
    refine for_list (xs := lvs.drop (i + 1)) (fun j σ H' => ∃ B4 fvs v4, σ = [some (.ref a), some (.ref F), some (.int (i : Int)), some xv, v4] ∧ Ext B H B4 H' ∧ Same B3 B4 ∧ B4 F = none ∧ H' F = some (.lst fvs) ∧
      All2 (PairV K B4) fvs ((pairsTo ls i ++ ((ls.drop (i + 1)).take j).map fun y => (x, y)).filter fun x => !(rc x.1 x.2 || rc x.2 x.1))) ?_ ?_ ?_ ?_
    · refine ⟨B3, fvs, v4, rfl, e3, Same.refl _, b3, hF3, ?_⟩
      rw [List.take_zero, List.map_nil, List.append_nil]
      exact al.mono fun a b r => mono_pair _ _ _ _ sq r
    · rintro j σ H' _ ⟨B4, fvs, v4, rfl, e4, s4, _⟩
      exact SqL.of (e4.s _ _ (s4 _ _ q3))
    · rintro j yv σ H' hj ⟨B4, fvs, v4, rfl, e4, s4, b4, hF4, al4⟩
      have hj' := hj
      rw [List.getElem?_drop] at hj'
      obtain ⟨y, hy, ry⟩ := l2.get hj'
      have ne : x ≠ y := fun z => by
        rw [z] at hx
        have := nd_ix nd hx hy
        omega
      have hy2 : (ls.drop (i + 1))[j]? = some y := by rw [List.getElem?_drop]; exact hy
      have tk : (ls.drop (i + 1)).take (j + 1) = (ls.drop (i + 1)).take j ++ [y] := by rw [List.take_add_one, hy2]; rfl
      have hxps := sub x (List.mem_of_getElem? hx)
      have hyps := sub y (List.mem_of_getElem? hy)
      have oA := hO.ext e4
      have rx4 := mono_pos _ _ _ _ e4.b rx
      have ry4 := mono_pos _ _ _ _ e4.b ry
      refine s_if (tl_and (tl_not (tl_B (vl_prec (vl_var rfl) (vl_var rfl) (vl_var rfl) e4.s oA hxps ne rx4 ry4))) fun _ => tl_not (tl_B (vl_prec (vl_var rfl) (vl_var rfl) (vl_var rfl) e4.s oA hyps (Ne.symm ne) ry4 rx4))) (fun hb => ?_) fun hb => ?_
      · have hn : fvs.length < 16000000 := by
          rw [al4.1]
          refine Nat.lt_of_le_of_lt (List.length_filter_le _ _) ?_
          rw [List.length_append, List.length_map, List.length_take, List.length_drop]
          have := pairsTo_len ls i
          have : i * ls.length ≤ 1000 * 1000 := Nat.mul_le_mul (by omega) hz
          omega
        refine ⟨_, rfl, .inl ⟨rfl, _, SqL.of hF4⟩, s_cons (s_tup (al_cons (vl_var rfl) (al_cons (vl_var rfl) al_nil)) (by show 2 ≤ 1000; decide) fun t2 ht2 => ?_)⟩
        have hF5 := Same.new (o := .tup [xv, yv]) ht2 _ _ hF4
        have Ft : F ≠ t2 := fun z => by
          rw [← z, hF4] at ht2
          cases ht2
        have bt := e4.s.free ht2
        have st := Same.new (o := .tup [xv, yv]) bt
        refine ⟨F, fvs, .ref t2, rfl, rfl, hF5, szlt hn, ?_⟩
        refine ⟨_, _, _, rfl, (e4.new ht2).mut hF ((upd_ne Ft).trans b4), s4.trans st, (upd_ne Ft).trans b4, upd_same, ?_⟩
        rw [tk, List.map_append, ← List.append_assoc, List.filter_append]
        have e9 : ([y].map fun y => (x, y)).filter (fun x => !(rc x.1 x.2 || rc x.2 x.1)) = [(x, y)] := by
          rw [← Bool.not_or] at hb
          rw [List.map_cons, List.map_nil, List.filter_cons, if_pos hb]
          rfl
        rw [e9]
        exact (al4.mono fun a b r => mono_pair _ _ _ _ st r).snoc ⟨t2, xv, yv, rfl, SqT.of upd_same, mono_pos _ _ _ _ st rx4, mono_pos _ _ _ _ st ry4⟩
      · refine ⟨B4, fvs, _, rfl, e4, s4, b4, hF4, ?_⟩
        rw [tk, List.map_append, ← List.append_assoc, List.filter_append]
        have e9 : ([y].map fun y => (x, y)).filter (fun x => !(rc x.1 x.2 || rc x.2 x.1)) = [] := by
          rw [← Bool.not_or] at hb
          rw [List.map_cons, List.map_nil, List.filter_cons, if_neg (by rw [hb]; exact Bool.false_ne_true)]
          rfl
        rw [e9, List.append_nil]
        exact al4
    · rintro σ H' ⟨B4, fvs, v4, rfl, e4, s4, b4, hF4, al4⟩
      refine ⟨B4, fvs, _, _, _, rfl, e4, b4, hF4, ?_⟩
      rw [List.take_of_length_le (by rw [List.length_drop, List.length_drop, l2.1]; exact Nat.le_refl _)] at al4
      rw [pairsTo_succ hx]
      exact al4
  · rintro σ H' ⟨B1, fvs, v2, v3, v4, rfl, e, b1, hF1, al⟩
    rw [l2.1, pairsTo_all] at al
    exact ⟨_, rfl, k _ _ _ (e.keep hF b1 hF1) ⟨F, fvs, rfl, upd_same, al.mono fun a b r => mono_pair _ _ _ _ (Same.new b1) r⟩⟩
end
end Lg

-- ==== LgP12 ====
set_option Elab.async false
set_option linter.all false
set_option maxRecDepth 100000
set_option maxHeartbeats 4000000
/-! LgP12: Order.__init__. -/
namespace Lg
open PySem PySem.Spec PyProof.Rows L2
open Gf11 (Line Position Change Hunk State)
theorem ExtS.keep {mm bb : Addr} {B H B1 H1 : Hp} {D : Addr} {o : HO} (x : ExtS mm bb B H B1 H1) (h : H D = none) (hb : B1 D = none) (e : H1 D = some o) : ExtS mm bb B H (upd B1 D o) H1 := by
  refine ⟨x.b.trans (Same.new hb), x.h, fun a v q => ?_, fun a v q n => ?_⟩
  · by_cases c : a = D
    · subst c
      rw [upd_same] at q
      rw [← q]
      exact e
    · rw [upd_ne c] at q
      exact x.s a v q
  · rw [upd_ne (ne_of_none q h)]
    exact x.f a v q n
/-- what was free stays free to look back at, but for the two -/
theorem ExtS.free {mm bb : Addr} {B H B1 H1 : Hp} {D : Addr} (x : ExtS mm bb B H B1 H1) (h : H1 D = none) (hm : H1 mm ≠ none) (hb : H1 bb ≠ none) : H D = none := by
  cases q : H D with
  | none => rfl
  | some o => exact absurd h (by rw [x.h D o q (fun z => hm (z ▸ h)) (fun z => hb (z ▸ h))]; exact fun z => nomatch z)
section
variable {P : Program} {w : World} {K : PySem.W.Frag} {mg : Str → Option Value} {base : Heap}
structure Sized (ncs : List (Nat × Change)) : Prop where
  small : ∀ c ∈ ncs, Small c.2
  asc : Asc ncs
  ed : (edgesN ncs).length ≤ 100000
  del : (delN ncs).length ≤ 100000
  all : (allN ncs).length ≤ 1000
def spOrderInit (K : PySem.W.Frag) (P : Program) (w : World) : Sp := fun vs H Q _ => ∃ (B : Hp) (p dx : Addr) (v : V) (ncs : List (Nat × Change)) (rc : Position → Position → Bool), vs = [.ref p, v] ∧ Same B H ∧ H p = some (.ins (gad K "Order") dx []) ∧ B p = none ∧ LstV (ChangeV K) B v ncs ∧ Sized ncs ∧
  RcOk (edgesN ncs) (visN ncs) rc ∧ (∃ r : Position → Nat, ∀ x ∈ visN ncs, ∀ y ∈ visN ncs, rc x y = true → r x < r y) ∧
  ∀ B' H' ra lv, ExtS p p B H B' H' → H' p = some (.ins (gad K "Order") dx (fO (.ref ra) lv)) → (∃ L, B' ra = some (DTO P w ra L) ∧ RD K P w B' (edgesN ncs) L (visN ncs)) → LstV (PosV K) B' lv (linOf rc (visN ncs).length (visN ncs)) → Q .non H'
theorem ok_Order_init (T : Txt K mg) : DOk P w K mg base CX0 3 (mad K "Order" "__init__") p_Order_init (spOrderInit K P w) := by
  refine ok_of_Order_init T (ok_steps_of T) (ok_visible_of T) (ok_reached_from T) (ok_Order_next_of T) (fun vs H Q E h => ?_) fun vs H Q E h => ?_
  · obtain ⟨B, p, dx, v, ncs, rc, rfl, _⟩ := h
    rfl
  obtain ⟨B, p, dx, v, ncs, rc, rfl, hB, hp, bp, hv, sz, hrc, hrk, k⟩ := h
  refine s_seq (s_asgN (s_call (al_cons (vl_var rfl) al_nil) ⟨B, v, ncs, rfl, hB, hv, sz.small, sz.ed, fun B1 H1 sv e1 r1 => ?_⟩))
  obtain ⟨sa, SL, rfl, hs1, sd⟩ := r1
  dsimp only
  refine s_seq (s_asgN (s_call (al_cons (vl_var rfl) al_nil) ⟨B1, v, ncs, rfl, e1.s, mono_lst mono_change _ _ _ _ e1.b hv, sz.asc, sz.del, Nat.le_trans sz.all (by decide), fun B2 H2 lv e2 r2 => ?_⟩))
  have e12 := e1.trans e2
  have s2 := e2.b _ _ hs1
  have sd2 := sd.mono e2.b
  obtain ⟨la, lvs, rfl, l1, l2⟩ := r2
  have hp2 := e12.h _ _ hp
  have bp2 := e12.f _ _ hp bp
  have ndv : (visN ncs).Nodup := ((allN_plt sz.asc).filter _).imp plt_ne
  have lenv : (visN ncs).length ≤ 1000 := Nat.le_trans (List.length_filter_le _ _) sz.all
  clear e1 e2
  -- self.reached = {}
  dsimp only
  refine s_seq (s_fldS fun D hD => ⟨_, rfl, p, _, dx, [], rfl, Same.new hD _ _ hp2, T.cl_Order, T.a_Order_reached, (by show 0 < 1000; decide), ?_⟩)
  have pD : p ≠ D := fun z => by
    rw [← z, hp2] at hD
    cases hD
  have hD0 := e12.h.free hD
  have bD2 := e12.s.free hD
  have x3 : ExtS p p B H B2 (upd (upd H2 D (DTO P w D [])) p (.ins (gad K "Order") dx (putF "reached" (.ref D) []))) := ((e12.toS (m := p) (b := p)).tmp hD).put (.inl rfl) bp2
  have hp3 : (upd (upd H2 D (DTO P w D [])) p (.ins (gad K "Order") dx (putF "reached" (.ref D) []))) p = some (.ins (gad K "Order") dx [("reached", .ref D)]) := upd_same
  have hD3 : (upd (upd H2 D (DTO P w D [])) p (.ins (gad K "Order") dx (putF "reached" (.ref D) []))) D = some (DTO P w D []) := (upd_ne (Ne.symm pD)).trans upd_same
  generalize (upd (upd H2 D (DTO P w D [])) p (.ins (gad K "Order") dx (putF "reached" (.ref D) []))) = H3 at x3 hp3 hD3
  dsimp only
  have lkR : List.lookup ("reached" : Str) [(("reached" : Str), V.ref D)] = some (.ref D) := lk_here
  refine s_seq (s_forL (xs := lvs) (vl_var rfl) (SqL.of (x3.s _ _ l1)) (fun i σ H' => ∃ B4 L v4, σ = [some (.ref p), some v, some (.ref sa), some (.ref la), v4, none] ∧ ExtS p p B H B4 H' ∧ Same B2 B4 ∧ B4 D = none ∧ B4 p = none ∧ H' p = some (.ins (gad K "Order") dx [("reached", .ref D)]) ∧ H' D = some (DTO P w D L) ∧
    RD K P w B4 (edgesN ncs) L ((visN ncs).take i) ∧ L.length ≤ i) ?_ ?_ ?_ ?_)
  · exact ⟨B2, [], none, rfl, x3, Same.refl _, bD2, bp2, hp3, hD3, ⟨fun e he => (nomatch he), fun x hx => (nomatch hx)⟩, Nat.le_refl _⟩
  · rintro i σ H' _ ⟨B4, L, v4, rfl, x4, s4, _⟩
    exact SqL.of (x4.s _ _ (s4 _ _ l1))
  · rintro i xv σ H' hi ⟨B4, L, v4, rfl, x4, s4, bD4, bp4, hp4, hD4, rd, hL⟩
    obtain ⟨x, hx, rx⟩ := l2.get hi
    have rx4 := mono_pos _ _ _ _ s4 rx
    refine s_call (vs := [.ref sa, xv]) (al_cons (vl_var rfl) (al_cons (vl_var rfl) al_nil)) ⟨B4, sa, SL, xv, edgesN ncs, x, rfl, x4.s, s4 _ _ s2, sd2.mono s4, rx4, sz.ed, fun B5 H5 fv e5 r5 => ?_⟩
    have pn : H' p ≠ none := by rw [hp4]; exact fun z => nomatch z
    have x5 := x4.ext e5 (fun _ => pn) (fun _ => pn)
    have hp5 := e5.h _ _ hp4
    have hD5 := e5.h _ _ hD4
    have bD5 := e5.f _ _ hD4 bD4
    have bp5 := e5.f _ _ hp4 bp4
    obtain ⟨xa, rfl, hxa⟩ := mono_pos _ _ _ _ e5.b rx4
    have rd5 := rd.mono e5.b
    refine vl_fld (vl_var rfl) hp5 T.cl_Order T.a_Order_reached lkR _ (vl_var rfl _ ⟨D, _, rfl, ⟨L, posI x, xa, hD5, keys_mono e5.s rd5.1, rfl, sqT_mono e5.s hxa, szlt (by have := (List.getElem?_eq_some_iff.mp hx).1; omega), rfl⟩, ?_⟩)
    refine ⟨B5, _, _, rfl, x5.mut hD0 bD5, s4.trans e5.b, bD5, bp5, (upd_ne pD).trans hp5, upd_same, ⟨keys_put rd5.1 hxa, fun y hy => ?_⟩, ?_⟩
    · rw [dLook_put]
      by_cases c : y = x
      · rw [if_pos (by rw [c]), c]
        exact ⟨_, rfl, r5⟩
      · rw [if_neg (fun z => c (posI_inj z))]
        rw [List.take_add_one, hx] at hy
        rcases List.mem_append.mp hy with hy | hy
        · exact rd5.2 y hy
        · exact absurd (by simpa using hy) c
    · have := dPut_len L (posI x) xa fv
      omega
  · rintro σ H' ⟨B4, L, v4, rfl, x4, s4, bD4, bp4, hp4, hD4, rd, hL⟩
    rw [l2.1, List.take_length] at rd
    -- self.lines = []
    dsimp only
    refine s_seq (s_fldS (s_lst al_nil (by show 0 ≤ 1000; decide) fun F hF => ⟨_, rfl, p, _, dx, _, rfl, Same.new hF _ _ hp4, T.cl_Order, T.a_Order_lines, (by show 1 < 1000; decide), ?_⟩))
    have pF : p ≠ F := fun z => by
      rw [← z, hp4] at hF
      cases hF
    have DF : D ≠ F := fun z => by
      rw [← z, hD4] at hF
      cases hF
    have e0 : putF "lines" (.ref F) [(("reached" : Str), V.ref D)] = fO (.ref D) (.ref F) := by
      have n1 : ¬ ("reached" : Str) = "lines" := by decide +kernel
      rw [put_past n1]
      rfl
    rw [e0]
    have pn : H' p ≠ none := by rw [hp4]; exact fun z => nomatch z
    have hF0 := x4.free hF pn pn
    have x5 := x4.keep hD0 bD4 hD4
    have s45 := Same.new (o := DTO P w D L) bD4
    have bF : (upd B4 D (DTO P w D L)) F = none := x5.s.free hF
    have bp5 : (upd B4 D (DTO P w D L)) p = none := (upd_ne pD).trans bp4
    have bDD : (upd B4 D (DTO P w D L)) D = some (DTO P w D L) := upd_same
    generalize (upd B4 D (DTO P w D L)) = B5 at x5 s45 bF bp5 bDD
    have x6 := (x5.tmp (o := .lst []) hF).put (D := p) (o := .ins (gad K "Order") dx (fO (.ref D) (.ref F))) (.inl rfl) bp5
    have hp6 : (upd (upd H' F (.lst [])) p (.ins (gad K "Order") dx (fO (.ref D) (.ref F)))) p = some _ := upd_same
    have hF6 : (upd (upd H' F (.lst [])) p (.ins (gad K "Order") dx (fO (.ref D) (.ref F)))) F = some (.lst []) := (upd_ne (Ne.symm pF)).trans upd_same
    generalize (upd (upd H' F (.lst [])) p (.ins (gad K "Order") dx (fO (.ref D) (.ref F)))) = H6 at x6 hp6 hF6
    have rd5 := rd.mono s45
    refine s_whileA (fun m σ H' => ∃ (B7 : Hp) (lv : V) (left : List Position) (fvs : List V) (done : List Position) (v4 v5 : Option V), σ = [some (.ref p), some v, some (.ref sa), some lv, v4, v5] ∧ ExtS p p B H B7 H' ∧ Same B5 B7 ∧ B7 p = none ∧ B7 F = none ∧ H' p = some (.ins (gad K "Order") dx (fO (.ref D) (.ref F))) ∧
      H' F = some (.lst fvs) ∧ All2 (PosV K B7) fvs done ∧ LstV (PosV K) B7 lv left ∧ left.Nodup ∧ (∀ x ∈ left, x ∈ visN ncs) ∧ linOf rc (visN ncs).length (visN ncs) = done ++ linOf rc left.length left ∧ m = left.length ∧ done.length + m ≤ 1000) (visN ncs).length ?_ ?_
    · exact ⟨B5, .ref la, visN ncs, [], [], v4, none, rfl, x6, Same.refl _, bp5, bF, hp6, hF6, .nil, ⟨la, lvs, rfl, s45 _ _ (s4 _ _ l1), l2.mono fun a b r => mono_pos _ _ _ _ (s4.trans s45) r⟩, ndv, fun x hx => hx, rfl, rfl, by show 0 + _ ≤ _; omega⟩
    · rintro m σ H' ⟨B7, lv, left, fvs, done, v4, v5, rfl, x7, s7, bp7, bF7, hp7, hF7, al, ⟨ta, tvs, rfl, t1, t2⟩, nd, sub, hlin, rfl, hm⟩
      refine s_testA (s_neNil (l := left.map posI) (vl_var rfl) (x7.s _ _ t1) (pos_tup t2) x7.s fun q hq => ⟨_, rfl, ?_⟩)
      have x8 := x7.tmp (o := .lst []) hq
      have hp8 := Same.new (o := .lst []) hq _ _ hp7
      have hF8 := Same.new (o := .lst []) hq _ _ hF7
      generalize upd H' q (.lst []) = H8 at x8 hp8 hF8
      rw [List.isEmpty_map]
      cases hem : left.isEmpty with
      | true =>
        have hl : left = [] := List.isEmpty_iff.mp hem
        refine iteF ?_
        rw [hl] at hlin
        have hlin' : linOf rc (visN ncs).length (visN ncs) = done := by
          rw [hlin]
          exact List.append_nil _
        have sF := Same.new (o := .lst fvs) bF7
        refine k _ _ D (.ref F) (x8.keep hF0 bF7 hF8) hp8 ⟨L, sF _ _ (s7 _ _ bDD), rd5.mono (s7.trans sF)⟩ ⟨F, fvs, rfl, upd_same, ?_⟩
        rw [hlin']
        exact al.mono fun a b r => mono_pos _ _ _ _ sF r
      | false =>
        have hne : left ≠ [] := fun z => by
          rw [z] at hem
          cases hem
        obtain ⟨r, hr⟩ := hrk
        obtain ⟨z, hz, hzl⟩ := first_some (b := rc) (fun x hx y hy => hr x (sub x hx) y (sub y hy)) hne
        refine iteT ⟨_, fun σ2 H2 z => z, ?_⟩
        have lt1 := lin_turn nd hz
        have hlen : left.length ≤ 1000 := by omega
        have oA : OrdA K P w B7 H8 p D (.ref F) (edgesN ncs) (visN ncs) rc := ⟨⟨dx, hp8⟩, ⟨L, s7 _ _ bDD, rd5.mono s7⟩, hrc⟩
        refine s_seq (s_asgN (s_meth (vl_var rfl) hp8 fO_next_of (vs := [.ref ta]) (al_cons (vl_var rfl) al_nil) ⟨B7, p, D, .ref F, .ref ta, edgesN ncs, visN ncs, left, rc, z, rfl, x8.s, oA, ⟨ta, tvs, rfl, t1, t2⟩, sub, by omega, hz, fun B9 H9 zv e9 rz => ?_⟩))
        have pn8 : H8 p ≠ none := by rw [hp8]; exact fun z => nomatch z
        have x9 := x8.ext e9 (fun _ => pn8) (fun _ => pn8)
        have hp9 := e9.h _ _ hp8
        have hF9 := e9.h _ _ hF8
        have bp9 := e9.f _ _ hp8 bp7
        have bF9 := e9.f _ _ hF8 bF7
        have dlen : done.length ≤ 1000 := by omega
        dsimp only
        refine s_seq (s_app (p := F) (vl_fld (vl_var rfl) hp9 T.cl_Order T.a_Order_lines fO_lines) hF9 (vl_var rfl) (by rw [al.1]; omega) ?_)
        have x10 := x9.mut (o := .lst (fvs ++ [zv])) hF0 bF9
        have hp10 := (upd_ne (o := HO.lst (fvs ++ [zv])) pF).trans hp9
        have hF10 : (upd H9 F (.lst (fvs ++ [zv]))) F = some (.lst (fvs ++ [zv])) := upd_same
        generalize upd H9 F (.lst (fvs ++ [zv])) = H10 at x10 hp10 hF10
        dsimp only
        have t19 := e9.b _ _ t1
        have t29 := t2.mono fun a b r => mono_pos _ _ _ _ e9.b r
        refine s_asgN (s_lcL (B := B9) (R := PosV K) (xs := tvs) (ys := fun i => (left[i]?).bind fun y => if (y != z) = true then some y else none) x10.s mono_pos (vl_var rfl) (SqL.of (x10.s _ _ t19)) (by rw [t2.1]; omega) (fun _ => rfl) (fun j yv B11 H11 hj e11 => ?_) fun B11 H11 nv e11 r11 => ?_)
        · obtain ⟨y, hy, ry⟩ := t29.get hj
          have sE : Same B9 H11 := e11.b.trans e11.s
          refine ⟨_, tl_test (vl_neT (vl_var rfl) (vl_var rfl) ry rz sE), fun hb Q2 k2 => ?_, fun hb => ?_⟩
          · refine vl_var rfl _ (k2 _ _ _ (Ext.refl e11.s) ⟨y, mono_pos _ _ _ _ e11.b ry, ?_⟩)
            have ne : y ≠ z := fun q => by
              rw [q, decide_eq_true rfl] at hb
              cases hb
            rw [hy]
            show (if (y != z) = true then some y else none) = _
            rw [if_pos (bne_iff_ne.mpr ne)]
          · have e0 : y = z := by
              cases c : decide (posI y = posI z) with
              | true => exact posI_inj (of_decide_eq_true c)
              | false =>
                rw [c] at hb
                cases hb
            rw [hy]
            show (if (y != z) = true then some y else none) = _
            rw [if_neg (by rw [e0]; simp)]
        · rw [t2.1, filterMap_filter] at r11
          have pn10 : H10 p ≠ none := by rw [hp10]; exact fun z => nomatch z
          have x11 := x10.ext e11 (fun _ => pn10) (fun _ => pn10)
          have lf := lin_turn nd hz
          have len1 : (left.filter fun y => y != z).length + 1 = left.length := len_filter_ne nd hzl
          refine ⟨(left.filter fun y => y != z).length, by omega, B11, nv, left.filter fun y => y != z, fvs ++ [zv], done ++ [z], _, _, rfl, x11, s7.trans (e9.b.trans e11.b), e11.f _ _ hp10 bp9, e11.f _ _ hF10 bF9, e11.h _ _ hp10, e11.h _ _ hF10,
            (al.mono fun a b r => mono_pos _ _ _ _ (e9.b.trans e11.b) r).snoc (mono_pos _ _ _ _ e11.b rz), r11, nd.sublist List.filter_sublist, fun x hx => sub x (List.mem_filter.mp hx).1, ?_, rfl, by rw [List.length_append, List.length_singleton]; omega⟩
          rw [hlin, lf, List.append_assoc]
          rfl
end
end Lg

-- ==== LgP13 ====
set_option Elab.async false
set_option linter.all false
set_option maxRecDepth 100000
set_option maxHeartbeats 4000000
/-! LgP13: a branch's changes; demand, told_row, told_line, line_at, order. -/
namespace Lg
open PySem PySem.Spec PyProof.Rows L2
open Gf11 (Line Position Change Hunk State)

/-! ### a branch's changes, with their numbers -/
def ncsOf (cs : List Change) (b : List Nat) : List (Nat × Change) := b.filterMap fun p => (cs[p]?).map fun c => (p, c)
theorem edgesN_ncs (cs : List Change) : ∀ b : List Nat, edgesN (ncsOf cs b) = Gf11.edges cs b
  | [] => rfl
  | p :: b => by
    have ih := edgesN_ncs cs b
    unfold ncsOf edgesN Gf11.edges at ih ⊢
    rw [List.filterMap_cons, List.flatMap_cons, ← ih]
    cases cs[p]? with
    | none => rfl
    | some c => rfl
theorem delN_ncs (cs : List Change) : ∀ b : List Nat, delN (ncsOf cs b) = Gf11.deletedLines cs b
  | [] => rfl
  | p :: b => by
    have ih := delN_ncs cs b
    unfold ncsOf delN Gf11.deletedLines at ih ⊢
    rw [List.filterMap_cons, List.flatMap_cons, ← ih]
    cases cs[p]? with
    | none => rfl
    | some c => rfl
theorem zip_line (p : Nat) (ls : List Line) : (ls.zipIdx.map fun x => (Position.line p x.2, x.1)).map (·.1) = (List.range ls.length).map fun i => Position.line p i := by
  rw [List.map_map]
  have e : ((·.1) ∘ fun (x : Line × Nat) => (Position.line p x.2, x.1)) = (fun i => Position.line p i) ∘ (·.2) := rfl
  rw [e, ← List.map_map]
  congr 1
  rw [List.zipIdx_map_snd]
  simp [List.range_eq_range']
theorem allN_ncs (cs : List Change) : ∀ b : List Nat, allN (ncsOf cs b) = (Gf11.allLines cs b).map (·.1)
  | [] => rfl
  | p :: b => by
    have ih := allN_ncs cs b
    unfold ncsOf allN Gf11.allLines at ih ⊢
    rw [List.filterMap_cons, List.flatMap_cons, List.map_append, ← ih]
    cases cs[p]? with
    | none => rfl
    | some c =>
      show List.flatMap _ (_ :: _) = _
      rw [List.flatMap_cons]
      congr 1
      exact (zip_line p _).symm
theorem visN_ncs (cs : List Change) (b : List Nat) : visN (ncsOf cs b) = vis cs b := by
  unfold visN vis Gf11.visibleLines
  rw [allN_ncs, delN_ncs, List.filter_map]
  congr 1
  refine List.filter_congr fun x _ => ?_
  simp [List.contains_eq_mem]
theorem mem_ncs {cs : List Change} {b : List Nat} {c : Nat × Change} (h : c ∈ ncsOf cs b) : c.1 ∈ b ∧ cs[c.1]? = some c.2 := by
  unfold ncsOf at h
  obtain ⟨p, hp, e⟩ := List.mem_filterMap.mp h
  obtain ⟨d, hd, rfl⟩ := Option.map_eq_some_iff.mp e
  exact ⟨hp, hd⟩
theorem ncs_asc {cs : List Change} {b : List Nat} (h : Up b) : Asc (ncsOf cs b) := by
  unfold ncsOf Asc
  rw [List.pairwise_filterMap]
  refine h.imp fun {x y} hxy a ha c hc => ?_
  obtain ⟨d, hd, rfl⟩ := Option.map_eq_some_iff.mp ha
  obtain ⟨e, he, rfl⟩ := Option.map_eq_some_iff.mp hc
  exact hxy
theorem ncs_len (cs : List Change) (b : List Nat) : (ncsOf cs b).length ≤ b.length := List.length_filterMap_le _ _
theorem ChangeOk.small {cs : List Change} {n : Nat} {c : Change} (h : ChangeOk cs n c) : Small c := ⟨h.few, h.hunks, h.gone⟩
theorem edges_len (n : Nat) : ∀ (k : Nat) (hs : List Hunk), (Gf11.hunkEdges n k hs).length = (linesOf hs).length + hs.length
  | _, [] => rfl
  | k, h :: hs => by
    show (Gf11.consecutive (h.before :: ((List.range h.lines.length).map (fun i => Position.line n (k + i)) ++ [h.after])) ++ Gf11.hunkEdges n (k + h.lines.length) hs).length = _
    rw [List.length_append, edges_len n _ hs, consec_len]
    have e : (linesOf (h :: hs)).length = h.lines.length + (linesOf hs).length := by
      unfold linesOf
      rw [List.flatMap_cons, List.length_append]
    rw [e]
    simp only [List.length_cons, List.length_append, List.length_map, List.length_range, List.length_nil]
    omega
theorem flatLen {α β : Type} {f : α → List β} {k : Nat} : ∀ {l : List α}, (∀ x ∈ l, (f x).length ≤ k) → (l.flatMap f).length ≤ k * l.length
  | [], _ => Nat.le_refl _
  | x :: l, h => by
    rw [List.flatMap_cons, List.length_append, List.length_cons]
    have h1 := h x List.mem_cons_self
    have h2 := flatLen (l := l) fun y hy => h y (List.mem_cons_of_mem _ hy)
    rw [Nat.mul_add, Nat.mul_one]
    omega
theorem Good.sized {s : State} (g : Good s) {b : List Nat} (hb : b ∈ s.branches) : Sized (ncsOf s.changes b) := by
  have hn : (ncsOf s.changes b).length ≤ 12 := Nat.le_trans (ncs_len _ _) (g.bn hb)
  have ok : ∀ c ∈ ncsOf s.changes b, Small c.2 := fun c hc => (g.ok c.1 c.2 (mem_ncs hc).2).small
  refine ⟨ok, ncs_asc (g.up b hb).1, ?_, ?_, ?_⟩
  · have := flatLen (l := ncsOf s.changes b) (f := fun c => Gf11.hunkEdges c.1 0 c.2.hunks) (k := 208) fun c hc => by
      have k := ok c hc
      rw [edges_len]
      have h1 := k.lines
      have h2 := k.hunks
      rw [← linesOf_eq] at h1
      omega
    unfold edgesN
    omega
  · have := flatLen (l := ncsOf s.changes b) (f := fun c => c.2.deleted) (k := 200) fun c hc => (ok c hc).gone
    unfold delN
    omega
  · have := flatLen (l := ncsOf s.changes b) (f := fun c => (List.range (Gf11.insertedLines c.2).length).map fun i => Position.line c.1 i) (k := 8) fun c hc => by
      rw [List.length_map, List.length_range]
      exact (ok c hc).lines
    unfold allN
    omega
theorem bef_ok (cs : List Change) (b : List Nat) : RcOk (Gf11.edges cs b) (vis cs b) (bef cs b) := fun x hx => ⟨before_self, fun y ne => before_iff hx ne⟩
section
variable {P : Program} {w : World} {K : PySem.W.Frag} {mg : Str → Option Value} {base : Heap}

/-! ### small helpers -/
def spDemand (K : PySem.W.Frag) : Sp := fun vs H Q E => ∃ (B : Hp) (c : Bool) (n : Int), vs = [.bl c, .int n] ∧ Same B H ∧ (c = false → Raised K B H E [n]) ∧ (c = true → Q .non H)
theorem s_raiseRef {C : Addr} {W : WX} {ta : TA} {D : Ends} {σ : L2.St} {H : Hp} (h : ta σ H fun vs H1 => ∃ v, vs = [v] ∧ ∀ d, H1 d = none → W (.ref C) (some d) σ (upd H1 d (.xd [(("told" : Str), v)]))) : tRaiseRef C W ta D σ H := h
theorem ok_demand (T : Txt K mg) : DOk P w K mg base (L2.CX P w) 3 (gad K "demand") p_demand (spDemand K) := by
  refine ok_of_demand T (fun vs H Q E h => ?_) fun vs H Q E h => ?_
  · obtain ⟨B, c, n, rfl, _⟩ := h
    rfl
  obtain ⟨B, c, n, rfl, hB, h1, h2⟩ := h
  refine s_if (tl_not (tl_B (vl_var rfl))) (fun hb => ?_) fun hb => ?_
  · have hc : c = false := by cases c <;> simp_all
    refine s_raiseRef (s_cons (s_lst (al_cons (vl_var rfl) al_nil) (by show 1 ≤ 1000; decide) fun p hp => ⟨_, rfl, ?_⟩))
    exact raise_step (h1 hc) ((Ext.refl hB).new hp) upd_same
  · have hc : c = true := by cases c <;> simp_all
    exact h2 hc
def spRow (K : PySem.W.Frag) : Sp := fun vs H Q _ => ∃ (B : Hp) (v : V) (ns : List Int), vs = [v] ∧ Same B H ∧ IntsV B v ns ∧ ns.length ≤ 1000000 ∧ Ret B H Q fun B' v => IntsV B' v ((ns.length : Int) :: ns)
theorem ok_told_row (T : Txt K mg) : DOk P w K mg base CX0 1 (gad K "told_row") p_told_row (spRow K) := by
  refine ok_of_told_row T (fun vs H Q E h => ?_) fun vs H Q E h => ?_
  · obtain ⟨B, v, ns, rfl, _⟩ := h
    rfl
  obtain ⟨B, v, ns, rfl, hB, ⟨a, rfl, ha⟩, hz, k⟩ := h
  refine s_retN (s_op (s_lst (al_cons (vl_lenL (vl_var rfl) (SqL.of (hB _ _ ha))) al_nil) (by show 1 ≤ 1000; decide) fun p hp => vl_var rfl _ ?_))
  have e := (Ext.refl hB).tmp (o := .lst [V.int ((ns.map V.int).length : Nat)]) hp
  refine ⟨p, a, _, _, rfl, rfl, upd_same, e.s _ _ ha, szl (by rw [List.length_map]; show 1 + ns.length ≤ _; omega), fun q hq => ?_⟩
  refine k _ _ _ (e.new hq) ⟨q, rfl, ?_⟩
  rw [upd_same, List.length_map]
  rfl
def spLine (K : PySem.W.Frag) : Sp := fun vs H Q _ => ∃ (B : Hp) (v : V) (ns : List Int), vs = [v] ∧ Same B H ∧ TupV K B v ns ∧ ns.length ≤ 1000000 ∧ Ret B H Q fun B' v => IntsV B' v ((ns.length : Int) :: ns)
theorem ok_told_line (T : Txt K mg) : DOk P w K mg base CX0 1 (gad K "told_line") p_told_line (spLine K) := by
  refine ok_of_told_line T (fun vs H Q E h => ?_) fun vs H Q E h => ?_
  · obtain ⟨B, v, ns, rfl, _⟩ := h
    rfl
  obtain ⟨B, v, ns, rfl, hB, ⟨a, rfl, ha⟩, hz, k⟩ := h
  refine s_retN (s_op (s_lst (al_cons (vl_lenT (vl_var rfl) (sqT_mono hB ha)) al_nil) (by show 1 ≤ 1000; decide) fun p hp => ?_))
  have e := (Ext.refl hB).tmp (o := .lst [V.int ((ns.map V.int).length : Nat)]) hp
  refine s_cb (s_cons (vl_var rfl _ ⟨a, _, rfl, .inr (sqT_mono e.s ha), fun l hl => ?_⟩))
  have e2 := e.tmp (o := .lst (ns.map V.int)) hl
  refine ⟨p, l, _, _, rfl, rfl, Same.new hl _ _ upd_same, upd_same, szl (by rw [List.length_map]; show 1 + ns.length ≤ _; omega), fun q hq => ?_⟩
  refine k _ _ _ (e2.new hq) ⟨q, rfl, ?_⟩
  rw [upd_same, List.length_map]
  rfl

/-! ### line_at -/
def spLineAt (K : PySem.W.Frag) : Sp := fun vs H Q _ => ∃ (B : Hp) (a m b : Addr) (s : State) (v : V) (p i : Nat) (c : Change) (l : Line), vs = [.ref a, v] ∧ Same B H ∧ SA K B H a m b s ∧ PosV K B v (.line p i) ∧ s.changes[p]? = some c ∧ (Gf11.insertedLines c)[i]? = some l ∧
  ∀ u, LineV K B u l → Q u H
theorem ok_line_at (T : Txt K mg) : DOk P w K mg base CX0 1 (mad K "Session" "line_at") p_Session_line_at (spLineAt K) := by
  refine ok_of_Session_line_at T (fun vs H Q E h => ?_) fun vs H Q E h => ?_
  · obtain ⟨B, a, m, b, s, v, p, i, c, l, rfl, _⟩ := h
    rfl
  obtain ⟨B, a, m, b, s, v, p, i, c, l, rfl, hB, ⟨⟨dx, ha⟩, _, _, _, ⟨vs, hm, hl, hv⟩, _⟩, ⟨t, rfl, ht⟩, hc, hi, k⟩ := h
  have hlt : p < vs.length := by
    rw [hl]
    exact (List.getElem?_eq_some_iff.mp hc).1
  have hp : vs[p]? = some vs[p] := List.getElem?_eq_getElem hlt
  obtain ⟨ca, cdx, hs, ds, ls, e, ho, _, _, ⟨la, lvs, rfl, l1, l2⟩⟩ := hv p _ c hp hc
  rw [e] at hp
  obtain ⟨u, hu, ru⟩ := l2.get' hi
  have ht' := sqT_mono hB ht
  exact s_retN (vl_ixL (j := i) (vl_fld (vl_ixL (j := p) (vl_fld (vl_var rfl) ha T.cl_Session T.a_Session_made fS_made) (vl_ixT (j := 0) (vl_var rfl) vl_c ht' rfl) (SqL.of hm) hp) (hB _ _ ho) T.cl_Change T.a_Change_lines fC_lines) (vl_ixT (j := 1) (vl_var rfl) vl_c ht' rfl) (SqL.of (hB _ _ l1)) hu _ (k u ru))

/-! ### order -/
/-- an order of the branch l -/
def OrdV (K : PySem.W.Frag) (P : Program) (w : World) (B : Hp) (v : V) (cs : List Change) (l : List Nat) : Prop :=
  ∃ o ra lv, v = .ref o ∧ OrdA K P w B B o ra lv (Gf11.edges cs l) (vis cs l) (bef cs l) ∧ LstV (PosV K) B lv (ordOf cs l)
theorem OrdV.mono {B B' : Hp} {v : V} {cs : List Change} {l : List Nat} (s : Same B B') (h : OrdV K P w B v cs l) : OrdV K P w B' v cs l := by
  obtain ⟨o, ra, lv, e, ⟨⟨dx, h1⟩, ⟨L, h2, h3⟩, h4⟩, h5⟩ := h
  exact ⟨o, ra, lv, e, ⟨⟨dx, s _ _ h1⟩, ⟨L, s _ _ h2, h3.mono s⟩, h4⟩, mono_lst mono_pos _ _ _ _ s h5⟩
def spOrder (K : PySem.W.Frag) (P : Program) (w : World) : Sp := fun vs H Q _ => ∃ (B : Hp) (a m b : Addr) (s : State) (n : Nat) (l : List Nat), vs = [.ref a, .int (n : Int)] ∧ Same B H ∧ SA K B H a m b s ∧ Good s ∧ s.branches[n]? = some l ∧ Ret B H Q fun B' v => OrdV K P w B' v s.changes l
/-- a branch's list -/
theorem SA.branch {B H : Hp} {a m b : Addr} {s : State} (x : SA K B H a m b s) {n : Nat} {l : List Nat} (hl : s.branches[n]? = some l) : ∃ ws la, H b = some (.lst ws) ∧ ws.length = s.branches.length ∧ ws[n]? = some (.ref la) ∧ B la = some (.lst ((toI l).map V.int)) := by
  obtain ⟨_, _, _, _, _, ⟨ws, h8, h9⟩⟩ := x
  have e : (s.branches.map toI)[n]? = some (toI l) := by rw [List.getElem?_map, hl]; rfl
  obtain ⟨v, hv, la, rfl, h⟩ := h9.get' e
  exact ⟨ws, la, h8, by rw [h9.1, List.length_map], hv, h⟩
/-- a change -/
theorem SA.change {B H : Hp} {a m b : Addr} {s : State} (x : SA K B H a m b s) {n : Nat} {c : Change} (hc : s.changes[n]? = some c) : ∃ vs v, H m = some (.lst vs) ∧ vs.length = s.changes.length ∧ vs[n]? = some v ∧ ChangeV K B v (n, c) := by
  obtain ⟨_, _, _, _, ⟨vs, hm, hl, hv⟩, _⟩ := x
  have hlt : n < vs.length := by
    rw [hl]
    exact (List.getElem?_eq_some_iff.mp hc).1
  exact ⟨vs, vs[n], hm, hl, List.getElem?_eq_getElem hlt, hv n _ c (List.getElem?_eq_getElem hlt) hc⟩
theorem ok_order (T : Txt K mg) : DOk P w K mg base CX0 5 (mad K "Session" "order") p_Session_order (spOrder K P w) := by
  refine ok_of_Session_order T (ok_Order_init T) (fun vs H Q E h => ?_) fun vs H Q E h => ?_
  · obtain ⟨B, a, m, b, s, n, l, rfl, _⟩ := h
    rfl
  obtain ⟨B, a, m, b, s, n, l, rfl, hB, hS, g, hl, k⟩ := h
  have hlb : l ∈ s.branches := List.mem_of_getElem? hl
  obtain ⟨ws, la, hb, _, hw, hla⟩ := hS.branch hl
  obtain ⟨dx, ha⟩ := hS.ins
  refine s_retN (s_makeA (s_cons ?_))
  refine s_lcL (B := B) (R := ChangeV K) (xs := (toI l).map V.int) (ys := fun i => (l[i]?).bind fun p => (s.changes[p]?).map fun c => (p, c)) hB mono_change (vl_ixL (j := n) (vl_fld (vl_var rfl) ha T.cl_Session T.a_Session_branches fS_branches) (vl_var rfl) (SqL.of hb) hw) (SqL.of (hB _ _ hla)) ?_ (fun _ => rfl)
    (fun i x B1 H1 hi e1 => ⟨true, tl_yes, fun _ Q2 k2 => ?_, fun z => (nomatch z)⟩) fun B1 H1 lv e1 r1 => ?_
  · rw [List.length_map, toI_len]
    have := g.bn hlb
    omega
  · rw [List.getElem?_map] at hi
    unfold toI at hi
    rw [List.getElem?_map] at hi
    cases hp : l[i]? with
    | none =>
      rw [hp] at hi
      cases hi
    | some p =>
      rw [hp] at hi
      obtain rfl := Option.some.inj hi
      have hlt := (g.up l hlb).2 p (List.mem_of_getElem? hp)
      have hc : s.changes[p]? = some s.changes[p] := List.getElem?_eq_getElem hlt
      obtain ⟨vs, v, hm, _, hv, rv⟩ := (hS.ext e1).change hc
      obtain ⟨dx1, ha1⟩ := (hS.ext e1).ins
      refine vl_ixL (j := p) (vl_fld (vl_var rfl) ha1 T.cl_Session T.a_Session_made fS_made) (vl_var rfl) (SqL.of hm) hv _ (k2 _ _ _ (Ext.refl e1.s) ⟨(p, s.changes[p]), rv, ?_⟩)
      rw [hp, Option.bind_some, hc]
      rfl
  · have e0 : (List.range ((toI l).map V.int).length).filterMap (fun i => (l[i]?).bind fun p => (s.changes[p]?).map fun c => (p, c)) = ncsOf s.changes l := by
      rw [List.length_map, toI_len]
      exact filterMap_bind l _
    rw [e0] at r1
    intro x cx hx hcx ne
    have ms := made_same (C := gad K "Order") hx hcx e1.s
    have bx : B1 x = none := e1.s.free hx
    have hv1 := visN_ncs s.changes l
    have he1 := edgesN_ncs s.changes l
    refine ⟨B1, x, cx, lv, ncsOf s.changes l, bef s.changes l, rfl, ms, upd_same, bx, r1, g.sized hlb, ?_, ?_, fun B2 H2 ra lv2 e2 hx2 rd r2 => ⟨rfl, ?_⟩⟩
    · rw [hv1, he1]
      exact bef_ok _ _
    · rw [hv1]
      exact g.ranks l
    · rw [hv1, he1] at rd
      rw [hv1, ← ord_lin] at r2
      have y := made_ext hx hcx ne e1.s e2 hx2
      have bx2 : B2 x = none := e2.f x _ upd_same bx
      have sx := Same.new (o := .ins (gad K "Order") cx (fO (.ref ra) lv2)) bx2
      obtain ⟨L, r3, r4⟩ := rd
      exact k _ _ _ (e1.trans y) ⟨x, ra, lv2, rfl, ⟨⟨cx, upd_same⟩, ⟨L, sx _ _ r3, r4.mono sx⟩, bef_ok _ _⟩, mono_lst mono_pos _ _ _ _ sx r2⟩
end
end Lg

-- ==== LgP14 ====
set_option Elab.async false
set_option linter.all false
set_option maxRecDepth 100000
set_option maxHeartbeats 4000000
/-! LgP14: lines_in, pairs_in, Session.__init__, ask_branch, ask_change, ask_room. -/
namespace Lg
open PySem PySem.Spec PyProof.Rows L2
open Gf11 (Line Position Change Hunk State)
theorem rgc2 {n : Nat} (h : n ≤ 1000000) : RgC 0 ((2 * n : Nat) : Int) 2 n := by
  have e : Builtin.Range.rangeSize 0 ((2 * n : Nat) : Int) 2 = (n : Int) := by
    unfold Builtin.Range.rangeSize
    simp only [show (2 : Int) > 0 by decide, if_true]
    split <;> omega
  refine ⟨by decide, by decide, ?_, e⟩
  unfold Builtin.Range.small
  rw [e]
  have hx : ((2 * n : Nat) : Int) ≤ 2000000 := by omega
  have hx0 : (0 : Int) ≤ ((2 * n : Nat) : Int) := by omega
  have hn : (n : Int) ≤ 1000000 := by omega
  have hn0 : (0 : Int) ≤ (n : Int) := by omega
  generalize ((2 * n : Nat) : Int) = x at hx hx0
  generalize (n : Int) = y at hn hn0
  rw [if_pos (by omega)]
  simp only [Builtin.Range.rangeFitsLong, Bool.and_eq_true, Bool.or_eq_true, decide_eq_true_eq, beq_iff_eq]
  omega
section
variable {K : PySem.W.Frag} {B H : Hp} {σ : L2.St} {te : TE} {tt : TT} {vs : List Nat} {j : Nat} {β : Type} {R : Rp β} {ys : Nat → Option β} {Q : VK}
/-- [te for x in range(0, 2 * n, 2)] -/
theorem s_lcC {ta : TA} {n : Nat} (s : Same B H) (mono : Mono R) (h : ∀ Q : List V → Hp → Prop, Q [.int 0, .int ((2 * n : Nat) : Int), .int 2] H → ta σ H Q) (hz : n ≤ 1000000) (hw : ∀ x, wipe ((wipe σ vs).set j (some x)) vs = wipe σ vs)
    (hs : ∀ (i : Nat) B1 H1, i < n → Ext B H B1 H1 → ∃ b, Tl tt ((wipe σ vs).set j (some (.int ((2 * i : Nat) : Int)))) H1 b ∧ (b = true → ∀ Q : VK, Ret B1 H1 Q (fun B' v => ∃ y, R B' v y ∧ ys i = some y) → te ((wipe σ vs).set j (some (.int ((2 * i : Nat) : Int)))) H1 Q) ∧ (b = false → ys i = none))
    (k : Ret B H Q fun B' v => LstV R B' v ((List.range n).filterMap ys)) : tLc (iRng3 ta) (gName j) tt te vs σ H Q :=
  h _ ⟨0, ((2 * n : Nat) : Int), 2, n, rfl, rgc2 hz, fun D hD => by
    refine ⟨fun i m H' => m = n - i ∧ i ≤ n ∧ LcW B H R ys D i H', ⟨n, by simp, Nat.zero_le _, lcw_start s hD⟩, ?_⟩
    rintro i m H' ⟨rfl, hi, p⟩
    by_cases hlt : i < n
    · refine .inr ⟨hlt, LcW B H R ys D (i + 1), fun H2 p' => ⟨n - (i + 1), by omega, rfl, hlt, p'⟩, fun x H2 y => ?_⟩
      obtain ⟨e, y⟩ := y
      subst e y
      have e0 : (0 : Int) + (i : Nat) * 2 = ((2 * i : Nat) : Int) := by omega
      rw [e0]
      exact ⟨hw _, lcw_turn mono hD (by omega) p fun B1 e => hs i B1 _ hlt e⟩
    · have e : i = n := by omega
      subst e
      exact .inl ⟨Nat.le_refl _, lcw_end hD p mono k⟩⟩
end
section
variable {P : Program} {w : World} {K : PySem.W.Frag} {mg : Str → Option Value} {base : Heap}

/-! ### pairs_in -/
def pairI : Position → List Int
  | .line p i => [p, i]
  | _ => []
def spPairs (K : PySem.W.Frag) : Sp := fun vs H Q _ => ∃ (B : Hp) (v : V) (rs : List (Nat × Nat)), vs = [v] ∧ Same B H ∧ IntsV B v (rs.flatMap fun x => [(x.1 : Int), (x.2 : Int)]) ∧ rs.length ≤ 1000 ∧ Ret B H Q fun B' v => LstV (PosV K) B' v (rs.map fun x => Position.line x.1 x.2)
theorem pairs_at : ∀ (rs : List (Nat × Nat)) (i : Nat) (x : Nat × Nat), rs[i]? = some x → (rs.flatMap fun x => [(x.1 : Int), (x.2 : Int)])[2 * i]? = some (x.1 : Int) ∧ (rs.flatMap fun x => [(x.1 : Int), (x.2 : Int)])[2 * i + 1]? = some (x.2 : Int)
  | [], i, x, h => by simp at h
  | y :: rs, 0, x, h => by
    simp at h
    subst h
    exact ⟨rfl, rfl⟩
  | y :: rs, i + 1, x, h => pairs_at rs i x (by simpa using h)
theorem pairs_len : ∀ (rs : List (Nat × Nat)), (rs.flatMap fun x => [(x.1 : Int), (x.2 : Int)]).length = 2 * rs.length
  | [] => rfl
  | y :: rs => by
    rw [List.flatMap_cons, List.length_append, pairs_len rs, List.length_cons]
    simp only [List.length_cons, List.length_nil]
    omega
theorem ok_pairs_in (T : Txt K mg) : DOk P w K mg base CX0 1 (gad K "pairs_in") p_pairs_in (spPairs K) := by
  refine ok_of_pairs_in T (fun vs H Q E h => ?_) fun vs H Q E h => ?_
  · obtain ⟨B, v, rs, rfl, _⟩ := h
    rfl
  obtain ⟨B, v, rs, rfl, hB, ⟨a, rfl, ha⟩, hz, k⟩ := h
  have lenN : ((rs.flatMap fun x => [(x.1 : Int), (x.2 : Int)]).map V.int).length = 2 * rs.length := by rw [List.length_map, pairs_len]
  refine s_retN (s_lcC (B := B) (R := PosV K) (n := rs.length) (ys := fun i => (rs[i]?).map fun x => Position.line x.1 x.2) hB mono_pos (fun Q q => al_cons vl_c (al_cons (vl_lenL (vl_var rfl) (SqL.of (hB _ _ ha))) (al_cons vl_c al_nil)) _ (by rw [lenN]; exact q)) (by omega) (fun _ => rfl)
    (fun i B1 H1 hi e1 => ⟨true, tl_yes, fun _ Q2 k2 => ?_, fun z => (nomatch z)⟩) fun B1 H1 v1 e1 r1 => ?_)
  · have hx : rs[i]? = some rs[i] := List.getElem?_eq_getElem hi
    obtain ⟨p1, p2⟩ := pairs_at rs i _ hx
    have q1 : ((rs.flatMap fun x => [(x.1 : Int), (x.2 : Int)]).map V.int)[2 * i]? = some (.int (rs[i].1 : Int)) := by rw [List.getElem?_map, p1]; rfl
    have q2 : ((rs.flatMap fun x => [(x.1 : Int), (x.2 : Int)]).map V.int)[2 * i + 1]? = some (.int (rs[i].2 : Int)) := by rw [List.getElem?_map, p2]; rfl
    have hs := SqL.of (K := K) (e1.h _ _ (hB _ _ ha))
    refine s_tup (al_cons (vl_ixL (j := 2 * i) (vl_var rfl) (vl_var rfl) hs q1) (al_cons (vl_ixL (j := 2 * i + 1) (vl_var rfl) (vl_add (n := ((2 * i : Nat) : Int)) (m := 1) (vl_var rfl) vl_c) hs q2) al_nil)) (by show 2 ≤ 1000; decide) fun t ht => ?_
    refine k2 _ _ _ ((Ext.refl e1.s).new ht) ⟨.line rs[i].1 rs[i].2, ⟨t, rfl, SqT.of upd_same⟩, ?_⟩
    rw [hx]
    rfl
  · rw [filterMap_map] at r1
    exact k _ _ _ e1 r1

/-! ### lines_in -/
def spLines (K : PySem.W.Frag) : Sp := fun vs H Q _ => ∃ (B : Hp) (v : V) (ts : List Line), vs = [v] ∧ Same B H ∧ IntsV B v (ts.flatMap Gf11.encodeLine) ∧ (ts.flatMap Gf11.encodeLine).length ≤ 1000 ∧ Ret B H Q fun B' v => LstV (LineV K) B' v ts
theorem enc_len (l : Line) : (Gf11.encodeLine l).length = l.length + 1 := by
  unfold Gf11.encodeLine Gf11.toInts
  rw [List.length_cons, List.length_map]
theorem enc_le : ∀ (ts : List Line), ts.length ≤ (ts.flatMap Gf11.encodeLine).length
  | [] => Nat.le_refl _
  | x :: l => by
    have ih := enc_le l
    rw [List.flatMap_cons, List.length_append, enc_len, List.length_cons]
    omega
theorem enc_drop {ts : List Line} {j : Nat} {t : Line} (h : ts[j]? = some t) : (ts.flatMap Gf11.encodeLine).drop ((ts.take j).flatMap Gf11.encodeLine).length = Gf11.encodeLine t ++ (ts.drop (j + 1)).flatMap Gf11.encodeLine := by
  have e : ts.flatMap Gf11.encodeLine = (ts.take j).flatMap Gf11.encodeLine ++ (ts.drop j).flatMap Gf11.encodeLine := by rw [← List.flatMap_append, List.take_append_drop]
  rw [e, List.drop_left, drop_at h, List.flatMap_cons]
theorem ok_lines_in (T : Txt K mg) : DOk P w K mg base CX0 1 (gad K "lines_in") p_lines_in (spLines K) := by
  refine ok_of_lines_in T (fun vs H Q E h => ?_) fun vs H Q E h => ?_
  · obtain ⟨B, v, ts, rfl, _⟩ := h
    rfl
  obtain ⟨B, v, ts, rfl, hB, ⟨a, rfl, ha⟩, hz, k⟩ := h
  refine s_seq (s_par (s_cons (s_lst al_nil (by show 0 ≤ 1000; decide) fun F hF => vl_c _ ⟨_, _, rfl, ?_⟩)))
  have bF := hB.free hF
  have e0 := (Ext.refl hB).tmp (o := .lst []) hF
  dsimp only
  refine s_seq (s_while (fun m σ H' => ∃ (B1 : Hp) (j : Nat) (fvs : List V) (v3 : Option V), σ = [some (.ref a), some (.ref F), some (.int (((ts.take j).flatMap Gf11.encodeLine).length : Nat)), v3] ∧ Ext B H B1 H' ∧ B1 F = none ∧ H' F = some (.lst fvs) ∧ All2 (LineV K B1) fvs (ts.take j) ∧ j ≤ ts.length ∧ m = ts.length - j) ts.length ?_ ?_)
  · exact ⟨B, 0, [], none, rfl, e0, bF, upd_same, .nil, Nat.zero_le _, rfl⟩
  · rintro m σ H' ⟨B1, j, fvs, v3, rfl, e, b1, hF1, al, hj, rfl⟩
    have hN := e.s _ _ (e.b _ _ ha)
    refine ⟨_, tl_test (vl_lt (vl_var rfl) (vl_lenL (vl_var rfl) (SqL.of hN))), fun hb => ?_, fun hb => ?_⟩
    · rw [List.length_map] at hb
      have hlt := of_decide_eq_true hb
      have hj2 : j < ts.length := by
        refine Nat.lt_of_le_of_ne hj fun z => ?_
        rw [z, List.take_length] at hlt
        omega
      have ht : ts[j]? = some ts[j] := List.getElem?_eq_getElem hj2
      have hd := enc_drop ht
      generalize hat : ((ts.take j).flatMap Gf11.encodeLine).length = at' at hd hlt
      generalize htj : ts[j] = t at ht hd
      have n0 : (ts.flatMap Gf11.encodeLine)[at']? = some (t.length : Int) := by
        have : ((ts.flatMap Gf11.encodeLine).drop at')[0]? = some (t.length : Int) := by rw [hd]; rfl
        rw [List.getElem?_drop, Nat.add_zero] at this
        exact this
      have len2 : at' + (t.length + 1) ≤ (ts.flatMap Gf11.encodeLine).length := by
        have := congrArg List.length hd
        rw [List.length_drop, List.length_append, enc_len] at this
        omega
      refine ⟨_, fun σ2 H2 z => z, ?_⟩
      refine s_seq (s_set (vl_add (vl_add (vl_var rfl) vl_c) (vl_ixL (j := at') (vl_var rfl) (vl_var rfl) (SqL.of hN) (by rw [List.getElem?_map, n0]; rfl))) ?_)
      dsimp only
      refine s_seq ⟨_, rfl, .inl ⟨rfl, _, SqL.of hF1⟩, s_cons (s_cb (s_cons ?_))⟩
      refine s_cut (lo := some ((at' + 1 : Nat) : Int)) (hi := some ((at' + 1 + t.length : Nat) : Int)) (vl_var rfl) (po_vl (vl_add (n := at') (m := 1) (vl_var rfl) vl_c)) (po_vl (vl_var (by
        show some (some (V.int ((at' : Int) + 1 + (t.length : Int)))) = _
        have : (at' : Int) + 1 + (t.length : Int) = ((at' + 1 + t.length : Nat) : Int) := by omega
        rw [this]))) (SqL.of hN) fun q hq => ?_
      rw [cut_range _ _ _ (by rw [List.length_map]; omega)]
      have ec : (((ts.flatMap Gf11.encodeLine).map V.int).drop (at' + 1)).take (at' + 1 + t.length - (at' + 1)) = (lineI t).map V.int := by
        rw [← List.map_drop, ← List.map_take]
        congr 1
        have : (ts.flatMap Gf11.encodeLine).drop (at' + 1) = lineI t ++ (ts.drop (j + 1)).flatMap Gf11.encodeLine := by
          rw [← List.drop_drop, hd]
          rfl
        rw [this, show at' + 1 + t.length - (at' + 1) = t.length by omega]
        exact List.take_left' (by unfold lineI; rw [List.length_map])
      rw [ec]
      have e2 := e.tmp (o := .lst ((lineI t).map V.int)) hq
      have hF2 := Same.new (o := .lst ((lineI t).map V.int)) hq _ _ hF1
      refine ⟨q, _, rfl, SqL.of upd_same, fun l hl => ?_⟩
      have e3 := e2.new (o := .tup ((lineI t).map V.int)) hl
      have hF3 := Same.new (o := .tup ((lineI t).map V.int)) hl _ _ hF2
      have Fl : F ≠ l := fun z => by
        rw [← z, hF2] at hl
        cases hl
      have b1l := e2.s.free hl
      have sl := Same.new (o := .tup ((lineI t).map V.int)) b1l
      have hlen : fvs.length ≤ 1000 := by
        rw [al.1, List.length_take]
        have := enc_le ts
        omega
      refine ⟨F, fvs, .ref l, rfl, rfl, hF3, szlt (by omega), ?_⟩
      refine s_set (vl_var rfl) ?_
      refine ⟨ts.length - (j + 1), by omega, _, j + 1, fvs ++ [.ref l], some (V.int ((at' : Int) + 1 + (t.length : Int))), ?_, e3.mut hF ((upd_ne Fl).trans b1), (upd_ne Fl).trans b1, upd_same, ?_, hj2, rfl⟩
      · have : ((ts.take (j + 1)).flatMap Gf11.encodeLine).length = at' + 1 + t.length := by
          rw [flat_at ht, List.length_append, hat, enc_len]
          omega
        rw [this]
        have : (at' : Int) + 1 + (t.length : Int) = ((at' + 1 + t.length : Nat) : Int) := by omega
        rw [this]
        rfl
      · rw [List.take_add_one, ht]
        exact (al.mono fun a b r => mono_line _ _ _ _ sl r).snoc ⟨l, rfl, SqT.of upd_same⟩
    · rw [List.length_map] at hb
      have hge := of_decide_eq_false hb
      have hj2 : j = ts.length := by
        refine Nat.le_antisymm hj (Nat.le_of_not_lt fun hlt => ?_)
        have ht : ts[j]? = some ts[j] := List.getElem?_eq_getElem hlt
        have := congrArg List.length (enc_drop ht)
        rw [List.length_drop, List.length_append, enc_len] at this
        omega
      subst hj2
      rw [List.take_length] at al
      exact ⟨_, rfl, k _ _ _ (e.keep hF b1 hF1) ⟨F, fvs, rfl, upd_same, al.mono fun a b r => mono_line _ _ _ _ (Same.new b1) r⟩⟩

/-! ### Session.__init__ -/
def spSessInit (K : PySem.W.Frag) : Sp := fun vs H Q _ => ∃ (B : Hp) (p dx : Addr), vs = [.ref p] ∧ Same B H ∧ H p = some (.ins (gad K "Session") dx []) ∧ B p = none ∧
  ∀ B' H' m b, Same B B' → Same B' H' → (∀ a o, H a = some o → a ≠ p → H' a = some o) → (∀ a o, H a = some o → B a = none → B' a = none) → SA K B' H' p m b Gf11.init → H m = none → H b = none → Q .non H'
theorem ok_Session_init (T : Txt K mg) : DOk P w K mg base CX0 1 (mad K "Session" "__init__") p_Session_init (spSessInit K) := by
  refine ok_of_Session_init T (fun vs H Q E h => ?_) fun vs H Q E h => ?_
  · obtain ⟨B, p, dx, rfl, _⟩ := h
    rfl
  obtain ⟨B, p, dx, rfl, hB, hp, bp, k⟩ := h
  refine s_seq (s_fldS (s_lst al_nil (by show 0 ≤ 1000; decide) fun m hm => ⟨_, rfl, p, _, dx, [], rfl, Same.new hm _ _ hp, T.cl_Session, T.a_Session_made, (by show 0 < 1000; decide), ?_⟩))
  have pm : p ≠ m := fun z => by
    rw [← z, hp] at hm
    cases hm
  have x1 := ((ExtS.refl (mm := p) (bb := p) hB).tmp (o := .lst []) hm).put (D := p) (o := .ins (gad K "Session") dx (putF "made" (.ref m) [])) (.inl rfl) bp
  have hp1 : (upd (upd H m (.lst [])) p (.ins (gad K "Session") dx (putF "made" (.ref m) []))) p = some (.ins (gad K "Session") dx [("made", .ref m)]) := upd_same
  have hm1 : (upd (upd H m (.lst [])) p (.ins (gad K "Session") dx (putF "made" (.ref m) []))) m = some (.lst []) := (upd_ne (Ne.symm pm)).trans upd_same
  generalize (upd (upd H m (.lst [])) p (.ins (gad K "Session") dx (putF "made" (.ref m) []))) = H1 at x1 hp1 hm1
  dsimp only
  refine s_fldS ?_
  refine ⟨by show 0 ≤ sizeLine; exact Nat.zero_le _, fun e he => ⟨by show 1 ≤ sizeLine; decide, fun b hb => ?_⟩⟩
  have pn : H1 p ≠ none := by rw [hp1]; exact fun z => nomatch z
  have x2 := (x1.new (o := .lst []) he pn pn).tmp (o := .lst [.ref e]) hb
  have pe : p ≠ e := fun z => by
    rw [← z, hp1] at he
    cases he
  have hp2 := Same.new (o := .lst [.ref e]) hb _ _ (Same.new (o := .lst []) he _ _ hp1)
  have hm2 := Same.new (o := .lst [.ref e]) hb _ _ (Same.new (o := .lst []) he _ _ hm1)
  have bb : (upd B e (.lst [])) b = none := (x1.new (o := .lst []) he pn pn).s.free hb
  have pb : p ≠ b := fun z => by
    rw [← z, Same.new (o := .lst []) he _ _ hp1] at hb
    cases hb
  have mb : m ≠ b := fun z => by
    rw [← z, Same.new (o := .lst []) he _ _ hm1] at hb
    cases hb
  have me : m ≠ e := fun z => by
    rw [← z, hm1] at he
    cases he
  refine ⟨_, rfl, p, _, dx, _, rfl, hp2, T.cl_Session, T.a_Session_branches, (by show 1 < 1000; decide), ?_⟩
  have e0 : putF "branches" (.ref b) [(("made" : Str), V.ref m)] = fS (.ref m) (.ref b) := by
    have n1 : ¬ ("made" : Str) = "branches" := by decide +kernel
    rw [put_past n1]
    rfl
  rw [e0]
  have x3 := x2.put (D := p) (o := .ins (gad K "Session") dx (fS (.ref m) (.ref b))) (.inl rfl) ((upd_ne pe).trans bp)
  refine k _ _ m b x3.b x3.s (fun a o h ne => x3.h a o h ne ne) x3.f ⟨⟨dx, upd_same⟩, mb, (upd_ne me).trans (hB.free hm), bb, ⟨[], (upd_ne (Ne.symm pm)).trans hm2, rfl, fun i v c h => by simp at h⟩, ⟨[.ref e], (upd_ne (Ne.symm pb)).trans upd_same, .cons ⟨e, rfl, upd_same⟩ .nil⟩⟩ hm ?_
  have hb1 : H1 b = none := none_back (Same.new he) hb
  exact x1.free hb1 pn pn

/-! ### ask -/
def spAskB (K : PySem.W.Frag) : Sp := fun vs H Q E => ∃ (B : Hp) (a m b : Addr) (s : State) (n : Nat), vs = [.ref a, .int (n : Int)] ∧ Same B H ∧ SA K B H a m b s ∧ (s.branches[n]? = none → Raised K B H E [-2]) ∧ (∀ l, s.branches[n]? = some l → Q .non H)
theorem ok_ask_branch (T : Txt K mg) : DOk P w K mg base (L2.CX P w) 4 (mad K "Session" "ask_branch") p_Session_ask_branch (spAskB K) := by
  refine ok_of_Session_ask_branch T (ok_demand T) (fun vs H Q E h => ?_) fun vs H Q E h => ?_
  · obtain ⟨B, a, m, b, s, n, rfl, _⟩ := h
    rfl
  obtain ⟨B, a, m, b, s, n, rfl, hB, hS, h1, h2⟩ := h
  obtain ⟨⟨dx, ha⟩, _, _, _, _, ⟨ws, h8, h9⟩⟩ := hS
  have hl : ws.length = s.branches.length := by rw [h9.1, List.length_map]
  refine s_dropN (s_call (al_cons (vl_lt (vl_var rfl) (vl_lenL (vl_fld (vl_var rfl) ha T.cl_Session T.a_Session_branches fS_branches) (SqL.of h8))) (al_cons vl_c al_nil)) ⟨B, _, _, rfl, hB, fun hc => ?_, fun hc => ?_⟩)
  · have := of_decide_eq_false hc
    exact h1 (List.getElem?_eq_none (by omega))
  · have := of_decide_eq_true hc
    exact h2 _ (List.getElem?_eq_getElem (by omega))
def spAskC (K : PySem.W.Frag) : Sp := fun vs H Q E => ∃ (B : Hp) (a m b : Addr) (s : State) (n : Nat), vs = [.ref a, .int (n : Int)] ∧ Same B H ∧ SA K B H a m b s ∧ (s.changes[n]? = none → Raised K B H E [-3]) ∧ (∀ c, s.changes[n]? = some c → Q .non H)
theorem ok_ask_change (T : Txt K mg) : DOk P w K mg base (L2.CX P w) 4 (mad K "Session" "ask_change") p_Session_ask_change (spAskC K) := by
  refine ok_of_Session_ask_change T (ok_demand T) (fun vs H Q E h => ?_) fun vs H Q E h => ?_
  · obtain ⟨B, a, m, b, s, n, rfl, _⟩ := h
    rfl
  obtain ⟨B, a, m, b, s, n, rfl, hB, hS, h1, h2⟩ := h
  obtain ⟨⟨dx, ha⟩, _, _, _, ⟨vs, hm, hl, _⟩, _⟩ := hS
  refine s_dropN (s_call (al_cons (vl_lt (vl_var rfl) (vl_lenL (vl_fld (vl_var rfl) ha T.cl_Session T.a_Session_made fS_made) (SqL.of hm))) (al_cons vl_c al_nil)) ⟨B, _, _, rfl, hB, fun hc => ?_, fun hc => ?_⟩)
  · have := of_decide_eq_false hc
    exact h1 (List.getElem?_eq_none (by omega))
  · have := of_decide_eq_true hc
    exact h2 _ (List.getElem?_eq_getElem (by omega))
def spAskR (K : PySem.W.Frag) : Sp := fun vs H Q E => ∃ (B : Hp) (a m b : Addr) (s : State), vs = [.ref a] ∧ Same B H ∧ SA K B H a m b s ∧ (12 ≤ s.changes.length → Raised K B H E [-8]) ∧ (s.changes.length < 12 → Q .non H)
theorem ok_ask_room (T : Txt K mg) : DOk P w K mg base (L2.CX P w) 4 (mad K "Session" "ask_room") p_Session_ask_room (spAskR K) := by
  refine ok_of_Session_ask_room T (ok_demand T) (fun vs H Q E h => ?_) fun vs H Q E h => ?_
  · obtain ⟨B, a, m, b, s, rfl, _⟩ := h
    rfl
  obtain ⟨B, a, m, b, s, rfl, hB, hS, h1, h2⟩ := h
  obtain ⟨⟨dx, ha⟩, _, _, _, ⟨vs, hm, hl, _⟩, _⟩ := hS
  refine s_dropN (s_call (al_cons (vl_lt (vl_lenL (vl_fld (vl_var rfl) ha T.cl_Session T.a_Session_made fS_made) (SqL.of hm)) vl_c) (al_cons vl_c al_nil)) ⟨B, _, _, rfl, hB, fun hc => ?_, fun hc => ?_⟩)
  · have := of_decide_eq_false hc
    exact h1 (by omega)
  · have := of_decide_eq_true hc
    exact h2 (by omega)
end
end Lg

-- ==== LgP15 ====
set_option Elab.async false
set_option linter.all false
set_option maxRecDepth 100000
set_option maxHeartbeats 4000000
/-! LgP15: add, record, required. -/
namespace Lg
open PySem PySem.Spec PyProof.Rows L2
open Gf11 (Line Position Change Hunk State insertNat)
theorem s_lcPre {K : PySem.W.Frag} {tl te : TE} {g : TG} {tt : TT} {vs : List Nat} {σ : L2.St} {H : Hp} {Q : VK} (h : tl σ H fun x H1 => tLc (iList K (tC x)) g tt te vs σ H1 Q) : tLc (iList K tl) g tt te vs σ H Q := h
theorem s_forPre {K : PySem.W.Frag} {tl : TE} {g : TG} {tb : TS} {D : Ends} {σ : L2.St} {H : Hp} (h : tl σ H fun x H1 => tFor (iList K (tC x)) g tb D σ H1) : tFor (iList K tl) g tb D σ H := h
theorem toI_append (l m : List Nat) : toI (l ++ m) = toI l ++ toI m := by
  unfold toI
  rw [List.map_append]
theorem toI_inj : ∀ {l m : List Nat}, toI l = toI m → l = m := fun {l m} h => lineI_inj h
theorem ixn_at {n k : Nat} (h : k < n) : ixN n (k : Int) = some k := by
  unfold ixN
  rw [if_pos (by omega), if_pos (by omega)]
  rfl
section
variable {P : Program} {w : World} {K : PySem.W.Frag} {mg : Str → Option Value} {base : Heap}

/-! ### add -/
def addTo (l ns : List Nat) : List Nat := ns.foldl (fun r q => insertNat q r) l
def withB (s : State) (n : Nat) (l : List Nat) : State := { s with branches := s.branches.set n l }
/-- the branches' list holds another one at n -/
theorem SA.setB {B H : Hp} {a m b : Addr} {s : State} (x : SA K B H a m b s) {n : Nat} {l : List Nat} {ws : List V} {p : Addr} (hb : H b = some (.lst ws)) (hn : n < ws.length) (hp : B p = some (.lst ((toI l).map V.int))) : SA K B (upd H b (.lst (ws.set n (.ref p)))) a m b (withB s n l) := by
  obtain ⟨⟨dx, h1⟩, h2, h3, h4, ⟨vs, h5, h6, h7⟩, ⟨us, h8, h9⟩⟩ := x
  rw [hb] at h8
  cases h8
  have ab : a ≠ b := fun z => by
    rw [z, hb] at h1
    cases h1
  refine ⟨⟨dx, (upd_ne ab).trans h1⟩, h2, h3, h4, ⟨vs, (upd_ne h2).trans h5, h6, h7⟩, ⟨_, upd_same, ?_⟩⟩
  have e : (withB s n l).branches.map toI = (s.branches.map toI).set n (toI l) := by
    unfold withB
    rw [List.map_set]
  rw [e]
  refine ⟨by rw [List.length_set, List.length_set, h9.1], fun i u v hu hv => ?_⟩
  rw [List.getElem?_set] at hu hv
  by_cases c : n = i
  · rw [if_pos c] at hu hv
    have hl2 : n < (s.branches.map toI).length := by rw [← h9.1]; exact hn
    rw [if_pos (c ▸ hn)] at hu
    rw [if_pos (c ▸ hl2)] at hv
    cases hu
    cases hv
    exact ⟨p, rfl, hp⟩
  · rw [if_neg c] at hu hv
    exact h9.2 i u v hu hv
def spAdd (K : PySem.W.Frag) : Sp := fun vs H Q _ => ∃ (B : Hp) (a m b : Addr) (s : State) (n : Nat) (l ns : List Nat) (nv : V), vs = [.ref a, .int (n : Int), nv] ∧ Same B H ∧ SA K B H a m b s ∧ s.branches[n]? = some l ∧ Up l ∧ IntsV B nv (toI ns) ∧ l.length + ns.length ≤ 100 ∧ (∀ x ∈ addTo l ns, x < 60) ∧
  ∀ B' H', ExtS m b B H B' H' → SA K B' H' a m b (withB s n (addTo l ns)) → Q .non H'
theorem ok_add (T : Txt K mg) : DOk P w K mg base CX0 1 (mad K "Session" "add") p_Session_add (spAdd K) := by
  refine ok_of_Session_add T (fun vs H Q E h => ?_) fun vs H Q E h => ?_
  · obtain ⟨B, a, m, b, s, n, l, ns, nv, rfl, _⟩ := h
    rfl
  obtain ⟨B, a, m, b, s, n, l, ns, nv, rfl, hB, hS, hl, hu, ⟨na, rfl, hna⟩, hz, hlt, k⟩ := h
  obtain ⟨ws, la, hb, hwl, hw, hla⟩ := hS.branch hl
  obtain ⟨dx, ha⟩ := hS.ins
  have hn : n < s.branches.length := (List.getElem?_eq_some_iff.mp hl).1
  refine s_asg (s_cb (s_cons (s_cb (s_cons ?_))))
  refine s_cat (vl_ixL (j := n) (vl_fld (vl_var rfl) ha T.cl_Session T.a_Session_branches fS_branches) (vl_var rfl) (SqL.of hb) hw) (vl_var rfl) (hB _ _ hla) (hB _ _ hna) (by simp only [List.length_map]; omega) fun q hq => ?_
  have e1 := (Ext.refl hB).tmp (o := .lst ((toI l).map V.int ++ (toI ns).map V.int)) hq
  refine ⟨q, toI (l ++ ns), rfl, SqL.of (by rw [upd_same, toI_append, List.map_append]), by rw [toI_len, List.length_append]; omega, fun sa m1 hsa mn mm => ?_⟩
  have e2 := e1.tmp (o := SetO w sa (fun k => decide (k ∈ toI (l ++ ns))) m1.length) hsa
  have mem : ∀ x : Nat, x ∈ addTo l ns ↔ x ∈ l ++ ns := fun x => by
    unfold addTo
    rw [mem_fold, List.mem_append]
  have mlt : ∀ x ∈ m1, 0 ≤ x ∧ x < (60 : Nat) := fun x hx => by
    obtain ⟨p, hp, rfl⟩ := List.mem_map.mp ((mm x).mp hx)
    have := hlt p ((mem p).mpr hp)
    omega
  have ml := nodup_len mn mlt
  refine ⟨sa, _, m1.length, rfl, upd_same, by omega, fun zs p hup hmem hlen hp => ?_⟩
  have e5 : zs = toI (addTo l ns) := upI_ext hup (toI_up (up_fold hu)) fun x => by
    rw [hmem, decide_eq_true_iff]
    unfold toI
    rw [List.mem_map, List.mem_map]
    constructor
    · rintro ⟨y, hy, e⟩
      exact ⟨y, (mem y).mpr hy, e⟩
    · rintro ⟨y, hy, e⟩
      exact ⟨y, (mem y).mp hy, e⟩
  subst e5
  have e3 := e2.new (o := .lst ((toI (addTo l ns)).map V.int)) hp
  have hS3 := hS.ext e3
  have hb3 := e3.h _ _ hb
  have hB3 : (upd B p (.lst ((toI (addTo l ns)).map V.int))) p = some (.lst ((toI (addTo l ns)).map V.int)) := upd_same
  obtain ⟨dx3, ha3⟩ := hS3.ins
  refine vl_fld (vl_var rfl) ha3 T.cl_Session T.a_Session_branches fS_branches _ (vl_var rfl _ ⟨b, ws, (n : Int), n, rfl, rfl, hb3, ixn_at (by rw [hwl]; exact hn), ?_⟩)
  exact k _ _ (e3.toS.put (.inr rfl) hS3.Bb) (hS3.setB hb3 (by rw [hwl]; exact hn) hB3)

/-! ### record -/
def recorded (s : State) (n : Nat) (l : List Nat) (c : Change) : State := ⟨s.changes ++ [c], s.branches.set n (l ++ [s.changes.length])⟩
theorem SA.addC {B H : Hp} {a m b : Addr} {s : State} (x : SA K B H a m b s) {c : Change} {vs : List V} {v : V} (hm : H m = some (.lst vs)) (hv : ChangeV K B v (s.changes.length, c)) : SA K B (upd H m (.lst (vs ++ [v]))) a m b { s with changes := s.changes ++ [c] } := by
  obtain ⟨⟨dx, h1⟩, h2, h3, h4, ⟨us, h5, h6, h7⟩, ⟨ws, h8, h9⟩⟩ := x
  rw [hm] at h5
  cases h5
  have am : a ≠ m := fun z => by
    rw [z, hm] at h1
    cases h1
  refine ⟨⟨dx, (upd_ne am).trans h1⟩, h2, h3, h4, ⟨_, upd_same, by rw [List.length_append, List.length_append, h6]; rfl, fun i u c' hu hc => ?_⟩, ⟨ws, (upd_ne (Ne.symm h2)).trans h8, h9⟩⟩
  by_cases d : i < vs.length
  · rw [List.getElem?_append_left d] at hu
    rw [List.getElem?_append_left (by rw [← h6]; exact d)] at hc
    exact h7 i u c' hu hc
  · have hl := (List.getElem?_eq_some_iff.mp hu).1
    rw [List.length_append, List.length_singleton] at hl
    have e : i = vs.length := by omega
    subst e
    rw [List.getElem?_append_right (Nat.le_refl _)] at hu
    rw [h6, List.getElem?_append_right (Nat.le_refl _)] at hc
    simp at hu hc
    rw [← hu, ← hc, h6]
    exact hv
def spRecord (K : PySem.W.Frag) : Sp := fun vs H Q _ => ∃ (B : Hp) (a m b : Addr) (s : State) (n : Nat) (l : List Nat) (c : Change) (cv : V), vs = [.ref a, .int (n : Int), cv] ∧ Same B H ∧ SA K B H a m b s ∧ s.branches[n]? = some l ∧ Up l ∧ (∀ x ∈ l, x < s.changes.length) ∧ s.changes.length < 12 ∧
  ChangeV K B cv (s.changes.length, c) ∧ RetS K B H a m b (recorded s n l c) Q fun B' v => IntsV B' v [(s.changes.length : Int)]
theorem ok_record (T : Txt K mg) : DOk P w K mg base CX0 2 (mad K "Session" "record") p_Session_record (spRecord K) := by
  refine ok_of_Session_record T (ok_add T) (fun vs H Q E h => ?_) fun vs H Q E h => ?_
  · obtain ⟨B, a, m, b, s, n, l, c, cv, rfl, _⟩ := h
    rfl
  obtain ⟨B, a, m, b, s, n, l, c, cv, rfl, hB, hS, hl, hu, hlt, h12, hc, k⟩ := h
  have hS' := hS
  obtain ⟨⟨dx, ha⟩, _, _, _, ⟨vs, hm, hml, _⟩, _⟩ := hS'
  refine s_seq (s_app (p := m) (vl_fld (vl_var rfl) ha T.cl_Session T.a_Session_made fS_made) hm (vl_var rfl) (by omega) ?_)
  have x1 : ExtS m b B H B (upd H m (.lst (vs ++ [cv]))) := (ExtS.refl hB).put (.inl rfl) hS.Bm
  have hS1 := hS.addC hm hc
  generalize upd H m (.lst (vs ++ [cv])) = H1 at x1 hS1
  have hc0 := hc
  obtain ⟨ca, cdx, hs, ds, ls, rfl, ho, _⟩ := hc0
  have num : ∀ H2, Same B H2 → Vl (tFld K (tVar 2) "number") [some (.ref a), some (.int (n : Int)), some (.ref ca)] H2 (.int (s.changes.length : Int)) := fun H2 sm => vl_fld (vl_var rfl) (sm _ _ ho) T.cl_Change T.a_Change_number fC_number
  obtain ⟨dx1, ha1⟩ := hS1.ins
  dsimp only
  refine s_seq (s_dropN ?_)
  refine vl_var rfl _ ⟨a, dx1, _, rfl, ha1, fS_none (by decide +kernel), s_cons (vl_var rfl _ (s_cons (s_lst (al_cons (num _ x1.s) al_nil) (by show 1 ≤ 1000; decide) fun q hq => ?_)))⟩
  have bq := x1.s.free hq
  have e2 : Ext B H1 (upd B q (.lst [V.int (s.changes.length : Int)])) (upd H1 q (.lst [V.int (s.changes.length : Int)])) := (Ext.refl x1.s).new hq
  have hS2 := hS1.ext e2
  have hn1 : H1 m ≠ none := by
    obtain ⟨_, _, _, _, ⟨vs1, h, _⟩, _⟩ := hS1
    rw [h]
    exact fun z => nomatch z
  have hn2 : H1 b ≠ none := by
    obtain ⟨_, _, _, _, _, ⟨ws1, h, _⟩⟩ := hS1
    rw [h]
    exact fun z => nomatch z
  have x2 := x1.ext e2 (fun _ => hn1) (fun _ => hn2)
  have ins : insertNat s.changes.length l = l ++ [s.changes.length] := by
    refine up_ext (up_ins hu) (up_snoc hu hlt) fun x => ?_
    rw [mem_ins, List.mem_append, List.mem_singleton]
    exact Or.comm
  have eadd : addTo l [s.changes.length] = l ++ [s.changes.length] := ins
  refine ⟨_, a, m, b, _, n, l, [s.changes.length], .ref q, rfl, e2.s, hS2, hl, hu, ⟨q, rfl, upd_same⟩, ?_, fun x hx => ?_, fun B3 H3 x3 hS3 => ?_⟩
  · have := up_len0 hu hlt
    show l.length + 1 ≤ 100
    omega
  · rw [eadd] at hx
    rcases List.mem_append.mp hx with hx | hx
    · have := hlt x hx
      omega
    · rw [List.mem_singleton.mp hx]
      omega
  · have mn2 : (upd H1 q (.lst [V.int (s.changes.length : Int)])) m ≠ none := by
      obtain ⟨_, _, _, _, ⟨vs1, h, _⟩, _⟩ := hS2
      rw [h]
      exact fun z => nomatch z
    have bn2 : (upd H1 q (.lst [V.int (s.changes.length : Int)])) b ≠ none := by
      obtain ⟨_, _, _, _, _, ⟨ws1, h, _⟩⟩ := hS2
      rw [h]
      exact fun z => nomatch z
    have mn3 : H3 m ≠ none := by
      obtain ⟨_, _, _, _, ⟨vs1, h, _⟩, _⟩ := hS3
      rw [h]
      exact fun z => nomatch z
    have bn3 : H3 b ≠ none := by
      obtain ⟨_, _, _, _, _, ⟨ws1, h, _⟩⟩ := hS3
      rw [h]
      exact fun z => nomatch z
    have x4 := x2.trans x3 (fun _ => mn2) (fun _ => bn2)
    refine s_retN (s_lst (al_cons (num _ (x4.b.trans x4.s)) al_nil) (by show 1 ≤ 1000; decide) fun r hr => ?_)
    have e5 : Ext B3 H3 (upd B3 r (.lst [V.int (s.changes.length : Int)])) (upd H3 r (.lst [V.int (s.changes.length : Int)])) := (Ext.refl x4.s).new hr
    refine k _ _ _ (x4.ext e5 (fun _ => mn3) (fun _ => bn3)) ?_ ⟨r, rfl, upd_same⟩
    have := hS3.ext e5
    rw [eadd] at this
    exact this

/-! ### required -/
def spRequired (K : PySem.W.Frag) : Sp := fun vs H Q _ => ∃ (B : Hp) (a m b : Addr) (s : State) (n : Nat), vs = [.ref a, .int (n : Int)] ∧ Same B H ∧ SA K B H a m b s ∧ Good s ∧ n < s.changes.length ∧ Ret B H Q fun B' v => IntsV B' v (toI (Gf13.allDependencies s n))
theorem nodup_nat {l : List Nat} {n : Nat} (h : l.Nodup) (hb : ∀ x ∈ l, x < n) : l.length ≤ n := by
  have := nodup_len (l := toI l) (n := n) ?_ fun x hx => ?_
  · rw [toI_len] at this
    exact this
  · unfold toI
    rw [List.Nodup, List.pairwise_map]
    exact h.imp fun q e => q (by omega)
  · unfold toI at hx
    obtain ⟨y, hy, rfl⟩ := List.mem_map.mp hx
    have := hb y hy
    omega
/-- the new ones of m -/
def newIn (l m : List Nat) : List Nat := m.filter fun x => !decide (x ∈ l)
/-- [x for x in deps if x not in found], all ints -/
theorem s_notIn {tl tm : TE} {vs : List Nat} {j : Nat} {σ : L2.St} {B H : Hp} {la fa : Addr} {m l : List Nat} {Q : VK} (s : Same B H) (h : Vl tl σ H (.ref la)) (hla : H la = some (.lst ((toI m).map V.int))) (hz : m.length ≤ 1000) (hw : ∀ x, wipe ((wipe σ vs).set j (some x)) vs = wipe σ vs) (hj : ∀ x, ((wipe σ vs).set j (some x))[j]? = some (some x))
    (hm : ∀ x H1, Same H H1 → Vl tm ((wipe σ vs).set j (some x)) H1 (.ref fa)) (hfa : H fa = some (.lst ((toI l).map V.int))) (k : Ret B H Q fun B' v => IntsV B' v (toI (newIn l m))) : tLc (iList K tl) (gName j) (tTest (tOp (rIn K true) (tVar j) tm)) (tVar j) vs σ H Q := by
  refine s_lcL (B := B) (R := IntV) (xs := (toI m).map V.int) (ys := fun i => (m[i]?).bind fun x => if (!decide (x ∈ l)) = true then some (x : Int) else none) s mono_int h (SqL.of hla) (by rw [List.length_map, toI_len]; omega) hw (fun i x B1 H1 hi e1 => ?_) fun B1 H1 v e1 r1 => ?_
  · rw [List.getElem?_map] at hi
    unfold toI at hi
    rw [List.getElem?_map] at hi
    cases hp : m[i]? with
    | none =>
      rw [hp] at hi
      cases hi
    | some p =>
      rw [hp] at hi
      obtain rfl := Option.some.inj hi
      have e0 : decide ((p : Int) ∈ toI l) = decide (p ∈ l) := by
        by_cases c : p ∈ l
        · rw [decide_eq_true c, decide_eq_true (toI_mem.mpr c)]
        · rw [decide_eq_false c, decide_eq_false (fun z => c (toI_mem.mp z))]
      refine ⟨!decide (p ∈ l), Tl.to (tl_test (vl_notin (vl_var (hj _)) (hm _ H1 e1.h) (.inl (SqL.of (e1.h _ _ hfa))))) (by rw [e0]), fun hb Q2 k2 => ?_, fun hb => ?_⟩
      · exact vl_var (hj _) _ (k2 _ _ _ (Ext.refl e1.s) ⟨_, rfl, by first | rw [Option.bind_some, if_pos hb] | rw [hp, Option.bind_some, if_pos hb]⟩)
      · first | rw [Option.bind_some, if_neg (by rw [hb]; exact Bool.false_ne_true)] | rw [hp, Option.bind_some, if_neg (by rw [hb]; exact Bool.false_ne_true)]
  · rw [List.length_map, toI_len, filterMap_bind] at r1
    have e0 : m.filterMap (fun x => if (!decide (x ∈ l)) = true then some (x : Int) else none) = toI (newIn l m) := by
      unfold newIn toI
      clear hz k r1 hla
      induction m with
      | nil => rfl
      | cons x m ih =>
        rw [List.filterMap_cons, List.filter_cons]
        by_cases c : (!decide (x ∈ l)) = true
        · rw [if_pos c, if_pos c, List.map_cons, ih]
        · rw [if_neg c, if_neg c, ih]
    rw [e0] at r1
    exact k _ _ _ e1 (ints_of_lst r1)
theorem ok_required (T : Txt K mg) : DOk P w K mg base CX0 2 (mad K "Session" "required") p_Session_required (spRequired K) := by
  refine ok_of_Session_required T (ok_Change_dependencies T) (fun vs H Q E h => ?_) fun vs H Q E h => ?_
  · obtain ⟨B, a, m, b, s, n, rfl, _⟩ := h
    rfl
  obtain ⟨B, a, m, b, s, n, rfl, hB, hS, g, hn, k⟩ := h
  have dd := g.deps
  refine s_seq (s_asg (s_cons (s_lst (al_cons (vl_var rfl) al_nil) (by show 1 ≤ 1000; decide) fun F hF => ?_)))
  have e1 := (Ext.refl hB).tmp (o := .lst [V.int (n : Int)]) hF
  have bF := hB.free hF
  refine s_cons (vl_c _ ⟨by show 2 ≤ sizeLine; decide, fun t ht => g_two (SqT.of upd_same) ?_⟩)
  have e2 := e1.tmp (o := .tup [.ref F, .int 0]) ht
  have hF2 : (upd (upd H F (.lst [V.int (n : Int)])) t (.tup [.ref F, .int 0])) F = some (.lst [V.int (n : Int)]) := Same.new ht _ _ upd_same
  dsimp only
  refine s_seq (s_while (fun k0 σ H' => ∃ (B1 : Hp) (l : List Nat) (i : Nat) (v4 : Option V), σ = [some (.ref a), some (.int (n : Int)), some (.ref F), some (.int (i : Int)), v4] ∧ Ext B H B1 H' ∧ B1 F = none ∧ H' F = some (.lst ((toI l).map V.int)) ∧ l.Nodup ∧ n ∈ l ∧ i ≤ l.length ∧ (∀ x ∈ l, x < s.changes.length) ∧
    (∀ x ∈ l, ∃ k, Rq s n k x) ∧ (∀ j q, j < i → l[j]? = some q → ∀ r ∈ depsOf s q, r ∈ l) ∧ k0 = s.changes.length - i) s.changes.length ?_ ?_)
  · refine ⟨B, [n], 0, none, rfl, e2, bF, hF2, by simp, List.mem_singleton.mpr rfl, Nat.zero_le _, fun x hx => ?_, fun x hx => ?_, fun j q h => absurd h (Nat.not_lt_zero _), rfl⟩
    · rw [List.mem_singleton.mp hx]
      exact hn
    · rw [List.mem_singleton.mp hx]
      exact ⟨0, .zero _⟩
  · rintro k0 σ H' ⟨B1, l, i, v4, rfl, e, b1, hF1, nd, hnl, hi, hlt, hrq, hcl, rfl⟩
    have hll : l.length ≤ s.changes.length := nodup_nat nd hlt
    have h12 := g.nc
    refine ⟨_, tl_test (vl_lt (vl_var rfl) (vl_lenL (vl_var rfl) (SqL.of hF1))), fun hb => ?_, fun hb => ?_⟩
    · rw [List.length_map, toI_len] at hb
      have hil : i < l.length := by have := of_decide_eq_true hb; omega
      have hq : l[i]? = some l[i] := List.getElem?_eq_getElem hil
      generalize l[i] = q at hq
      have hqc := hlt q (List.mem_of_getElem? hq)
      have hc : s.changes[q]? = some s.changes[q] := List.getElem?_eq_getElem hqc
      generalize s.changes[q] = c at hc
      have edep : depsOf s q = Gf11.dependencies c := by
        unfold depsOf Gf13.dependenciesOf
        rw [hc]
        rfl
      have hS1 := hS.ext e
      obtain ⟨vs, cv, hm, _, hv, rv⟩ := hS1.change hc
      obtain ⟨dx1, ha1⟩ := hS1.ins
      have rv' := rv
      obtain ⟨ca, cdx, hs, ds, ls, rfl, ho, _⟩ := rv'
      refine ⟨_, fun σ2 H2 z => z, ?_⟩
      refine s_seq ⟨_, rfl, .inl ⟨rfl, _, SqL.of hF1⟩, s_cons (s_lcPre ?_)⟩
      refine s_meth (vl_ixL (j := q) (vl_fld (vl_var rfl) ha1 T.cl_Session T.a_Session_made fS_made) (vl_ixL (j := i) (vl_var rfl) (vl_var rfl) (SqL.of hF1) (by unfold toI; rw [List.getElem?_map, List.getElem?_map, hq]; rfl)) (SqL.of hm) hv) (e.s _ _ ho) fC_dependencies al_nil
        ⟨B1, .ref ca, q, c, rfl, e.s, rv, (g.ok q c hc).small, fun p hp => by
          have := g.deps q p (by rw [edep]; exact hp)
          omega, fun B2 H2 dv e2 r2 => ?_⟩
      obtain ⟨da, rfl, hda⟩ := r2
      have hF2 := e2.h _ _ hF1
      have dlen : (Gf11.dependencies c).length ≤ 12 := up_len0 (up_deps c) fun x hx => by
        have := g.deps q x (by rw [edep]; exact hx)
        omega
      refine s_notIn (fa := F) (l := l) (m := Gf11.dependencies c) e2.s vl_c (e2.s _ _ hda) (by omega) (fun _ => rfl) (fun _ => rfl) (fun x H3 _ => vl_var rfl) hF2 fun B3 H3 nv e3 r3 => ?_
      obtain ⟨na, rfl, hna⟩ := r3
      have hF3 := e3.h _ _ hF2
      have nl : (newIn l (Gf11.dependencies c)).length ≤ 12 := Nat.le_trans (List.length_filter_le _ _) dlen
      refine ⟨F, na, _, _, rfl, rfl, hF3, e3.s _ _ hna, szl (by simp only [List.length_map]; omega), ?_⟩
      refine s_aug rfl vl_c ?_
      have b3 := e3.f F _ hF2 (e2.f F _ hF1 b1)
      have mem : ∀ x, x ∈ l ++ newIn l (Gf11.dependencies c) ↔ x ∈ l ∨ x ∈ Gf11.dependencies c := fun x => by
        unfold newIn
        rw [List.mem_append, List.mem_filter]
        by_cases c : x ∈ l <;> simp [c]
      refine ⟨s.changes.length - (i + 1), by omega, B3, l ++ newIn l (Gf11.dependencies c), i + 1, v4, rfl, (e.trans (e2.trans e3)).mut hF b3, b3, ?_, ?_, List.mem_append_left _ hnl, by rw [List.length_append]; omega, fun x hx => ?_, fun x hx => ?_, fun j r hj hr y hy => ?_, rfl⟩
      · rw [upd_same, toI_append, List.map_append]
      · rw [List.nodup_append]
        refine ⟨nd, (up_nodup (up_deps c)).sublist List.filter_sublist, fun x hx y hy => ?_⟩
        rintro rfl
        unfold newIn at hy
        have := (List.mem_filter.mp hy).2
        simp [hx] at this
      · rcases (mem x).mp hx with hx | hx
        · exact hlt x hx
        · have := g.deps q x (by rw [edep]; exact hx)
          omega
      · rcases (mem x).mp hx with hx | hx
        · exact hrq x hx
        · obtain ⟨k1, hk1⟩ := hrq q (List.mem_of_getElem? hq)
          exact ⟨k1 + 1, hk1.snoc (by rw [edep]; exact hx)⟩
      · rw [List.getElem?_append_left (by omega)] at hr
        by_cases d : j = i
        · subst d
          rw [hq] at hr
          cases hr
          rw [edep] at hy
          exact (mem y).mpr (.inr hy)
        · exact (mem y).mpr (.inl (hcl j r (by omega) hr y hy))
    · rw [List.length_map, toI_len] at hb
      have hil : i = l.length := by have := of_decide_eq_false hb; omega
      refine s_retN (s_cb (s_cons (vl_var rfl _ ⟨F, toI l, rfl, SqL.of hF1, by rw [toI_len]; omega, fun ns' p hperm hs hp => ?_⟩)))
      have hup : ns'.Pairwise (· < ·) := by
        have nd' : ns'.Nodup := hperm.nodup_iff.mpr (by
          unfold toI
          rw [List.Nodup, List.pairwise_map]
          exact nd.imp fun q e => q (by omega))
        exact (hs.and nd').imp fun {x y} h => by
          have h1 := h.1
          have h2 := h.2
          omega
      -- as natural numbers
      have hm : Up (ns'.map Int.toNat) := by
        rw [Up, List.pairwise_map]
        refine List.Pairwise.imp_of_mem (fun {x y} hx hy h => ?_) hup
        have hx' := hperm.mem_iff.mp hx
        unfold toI at hx'
        obtain ⟨z, _, rfl⟩ := List.mem_map.mp hx'
        omega
      have hml : ∀ x, x ∈ ns'.map Int.toNat ↔ x ∈ l := fun x => by
        rw [List.mem_map]
        constructor
        · rintro ⟨y, hy, rfl⟩
          have hy' := hperm.mem_iff.mp hy
          unfold toI at hy'
          obtain ⟨z, hz, rfl⟩ := List.mem_map.mp hy'
          rw [Int.toNat_natCast]
          exact hz
        · intro hx
          exact ⟨(x : Int), hperm.mem_iff.mpr (toI_mem.mpr hx), Int.toNat_natCast x⟩
      have e0 := all_of dd hnl (fun q hq r hr => by
        obtain ⟨j, hj⟩ := List.mem_iff_getElem?.mp hq
        exact hcl j q (by rw [hil]; exact (List.getElem?_eq_some_iff.mp hj).1) hj r hr) hrq hm hml
      have e6 : ns' = toI (Gf13.allDependencies s n) := upI_ext hup (toI_up (up_all s n)) fun x => by
        rw [← e0]
        unfold toI
        rw [List.mem_map]
        constructor
        · intro hx
          refine ⟨x.toNat, List.mem_map.mpr ⟨x, hx, rfl⟩, ?_⟩
          have hx' := hperm.mem_iff.mp hx
          unfold toI at hx'
          obtain ⟨z, _, rfl⟩ := List.mem_map.mp hx'
          rw [Int.toNat_natCast]
        · rintro ⟨y, hy, rfl⟩
          exact hperm.mem_iff.mpr (toI_mem.mpr ((hml y).mp hy))
      rw [e6]
      exact k _ _ _ (e.new hp) ⟨p, rfl, upd_same⟩
end
end Lg

-- ==== LgP16 ====
set_option Elab.async false
set_option linter.all false
set_option maxRecDepth 100000
set_option maxHeartbeats 4000000
/-! LgP16: what an operation promises; fork, apply, merge. -/
namespace Lg
open PySem PySem.Spec PyProof.Rows L2
open Gf11 (Line Position Change Hunk State insertNat)

/-! ### plain -/
theorem ins_len {x : Nat} : ∀ {l : List Nat}, x ∉ l → (insertNat x l).length = l.length + 1
  | [], _ => rfl
  | y :: l, h => by
    have h1 : ¬ x = y := fun z => h (z ▸ List.mem_cons_self)
    have h2 : x ∉ l := fun z => h (List.mem_cons_of_mem _ z)
    unfold insertNat
    rw [if_neg h1]
    split
    · rfl
    · rw [List.length_cons, ins_len h2, List.length_cons]
theorem ins_ge (x : Nat) : ∀ (l : List Nat), l.length ≤ (insertNat x l).length
  | [] => Nat.zero_le _
  | y :: l => by
    unfold insertNat
    split
    · exact Nat.le_refl _
    · split
      · exact Nat.le_succ _
      · exact Nat.succ_le_succ (ins_ge x l)
theorem add_ge : ∀ (ns l : List Nat), l.length ≤ (addTo l ns).length
  | [], l => Nat.le_refl _
  | n :: ns, l => Nat.le_trans (ins_ge n l) (add_ge ns (insertNat n l))
theorem cont_dec {l : List Nat} {x : Nat} : l.contains x = decide (x ∈ l) := by
  by_cases h : x ∈ l
  · rw [decide_eq_true h]
    exact List.contains_iff_mem.mpr h
  · rw [decide_eq_false h]
    cases e : l.contains x with
    | false => rfl
    | true => exact absurd (List.contains_iff_mem.mp e) h
theorem encInt (l : List Nat) : Gf11.toInts l = toI l := rfl
section
variable {P : Program} {w : World} {K : PySem.W.Frag} {mg : Str → Option Value} {base : Heap}
theorem s_bm {T : String} {r : V → List V → Hp → VK → Prop} {to : TE} {t : TA} {σ : L2.St} {H : Hp} {Q : VK} (h : to σ H fun x H1 => tyV K T x H1 ∧ t σ H1 fun xs H2 => r x xs H2 Q) : tBM K T r to t σ H Q := h
theorem s_callA {sp : Sp} {dvs : List V} {E : XK} {ar : TA} {σ : L2.St} {H : Hp} {Q : VK} (h : ar σ H fun vs H1 => sp (vs ++ dvs) H1 Q E) : tCall sp dvs E ar σ H Q := h
theorem SA.nm {B H : Hp} {a m b : Addr} {s : State} (x : SA K B H a m b s) : H m ≠ none := by
  obtain ⟨_, _, _, _, ⟨vs, h, _⟩, _⟩ := x
  rw [h]
  exact fun z => nomatch z
theorem SA.nb {B H : Hp} {a m b : Addr} {s : State} (x : SA K B H a m b s) : H b ≠ none := by
  obtain ⟨_, _, _, _, _, ⟨ws, h, _⟩⟩ := x
  rw [h]
  exact fun z => nomatch z
theorem SA.ex {B H B1 H1 B2 H2 : Hp} {a m b : Addr} {s : State} (hS : SA K B1 H1 a m b s) (x : ExtS m b B H B1 H1) (e : Ext B1 H1 B2 H2) : ExtS m b B H B2 H2 := x.ext e (fun _ => hS.nm) (fun _ => hS.nb)
theorem SA.ex2 {B H B1 H1 B2 H2 : Hp} {a m b : Addr} {s : State} (hS : SA K B1 H1 a m b s) (x : ExtS m b B H B1 H1) (e : ExtS m b B1 H1 B2 H2) : ExtS m b B H B2 H2 := x.trans e (fun _ => hS.nm) (fun _ => hS.nb)
/-- how an operation that is to come to r ends -/
structure Out (K : PySem.W.Frag) (B H : Hp) (a m b : Addr) (s : State) (r : State × Gf11.Result) (Q : VK) (E : XK) : Prop where
  no : r.1 = s → Raised K B H E (r.2.value :: r.2.fields)
  yes : RetS K B H a m b r.1 Q fun B' v => IntsV B' v (r.2.value :: r.2.fields)
theorem Out.eq {B H : Hp} {a m b : Addr} {s : State} {r r' : State × Gf11.Result} {Q : VK} {E : XK} (o : Out K B H a m b s r Q E) (e : r = r') : Out K B H a m b s r' Q E := e ▸ o
/-- the session as an operation meets it -/
structure Met (K : PySem.W.Frag) (B H : Hp) (a m b : Addr) (s : State) : Prop where
  same : Same B H
  sa : SA K B H a m b s
  good : Good s
theorem Met.ext {B H B' H' : Hp} {a m b : Addr} {s : State} (x : Met K B H a m b s) (e : Ext B H B' H') : Met K B' H' a m b s := ⟨e.s, x.sa.ext e, x.good⟩
theorem Met.vB {B H : Hp} {a m b : Addr} {s : State} (x : Met K B H a m b s) (T : Txt K mg) {σ : L2.St} {t : TE} (h : Vl t σ H (.ref a)) : Vl (tFld K t "branches") σ H (.ref b) := by
  obtain ⟨dx, ha⟩ := x.sa.ins
  exact vl_fld h ha T.cl_Session T.a_Session_branches fS_branches
theorem Met.vM {B H : Hp} {a m b : Addr} {s : State} (x : Met K B H a m b s) (T : Txt K mg) {σ : L2.St} {t : TE} (h : Vl t σ H (.ref a)) : Vl (tFld K t "made") σ H (.ref m) := by
  obtain ⟨dx, ha⟩ := x.sa.ins
  exact vl_fld h ha T.cl_Session T.a_Session_made fS_made
/-- an own method called -/
theorem s_self {B H : Hp} {a m b : Addr} {s : State} {ar : TA} {vs : List V} {Q : VK} {f : Str} {sp : Sp} {E : XK} {σ : L2.St} {ta : TE} (x : SA K B H a m b s) (ho : Vl ta σ H (.ref a)) (hf : ((f == ("made" : Str)) || (f == ("branches" : Str))) = false) (h : Al ar σ H vs) (k : sp (.ref a :: (vs ++ [])) H Q E) :
    tMeth (gad K "Session") f sp [] E ta ar σ H Q := by
  obtain ⟨dx, ha⟩ := x.ins
  exact s_meth ho ha (fS_none hf) h k
theorem s_selfA {B H : Hp} {a m b : Addr} {s : State} {ar : TA} {Q : VK} {f : Str} {sp : Sp} {E : XK} {σ : L2.St} {ta : TE} (x : SA K B H a m b s) (ho : Vl ta σ H (.ref a)) (hf : ((f == ("made" : Str)) || (f == ("branches" : Str))) = false) (k : ar σ H fun vs H1 => sp (.ref a :: (vs ++ [])) H1 Q E) :
    tMeth (gad K "Session") f sp [] E ta ar σ H Q := by
  obtain ⟨dx, ha⟩ := x.ins
  exact ho _ ⟨a, dx, _, rfl, ha, fS_none hf, k⟩
/-- ask_branch, and go on with the branch -/
theorem s_askB {B H : Hp} {a m b : Addr} {s : State} {n : Nat} {E : XK} {σ : L2.St} {D : Ends} {ta tn : TE} (x : Met K B H a m b s) (ho : Vl ta σ H (.ref a)) (hn : Vl tn σ H (.int (n : Int))) (h1 : s.branches[n]? = none → Raised K B H E [-2]) (h2 : ∀ l, s.branches[n]? = some l → D.nx σ H) :
    tDrop (tMeth (gad K "Session") "ask_branch" (spAskB K) [] E ta (tCons tn tNil)) D σ H :=
  s_dropN (s_self x.sa ho (by decide +kernel) (al_cons hn al_nil) ⟨B, a, m, b, s, n, rfl, x.same, x.sa, h1, h2⟩)
theorem s_askC {B H : Hp} {a m b : Addr} {s : State} {n : Nat} {E : XK} {σ : L2.St} {D : Ends} {ta tn : TE} (x : Met K B H a m b s) (ho : Vl ta σ H (.ref a)) (hn : Vl tn σ H (.int (n : Int))) (h1 : s.changes[n]? = none → Raised K B H E [-3]) (h2 : ∀ c, s.changes[n]? = some c → D.nx σ H) :
    tDrop (tMeth (gad K "Session") "ask_change" (spAskC K) [] E ta (tCons tn tNil)) D σ H :=
  s_dropN (s_self x.sa ho (by decide +kernel) (al_cons hn al_nil) ⟨B, a, m, b, s, n, rfl, x.same, x.sa, h1, h2⟩)
theorem s_askR {B H : Hp} {a m b : Addr} {s : State} {E : XK} {σ : L2.St} {D : Ends} {ta : TE} (x : Met K B H a m b s) (ho : Vl ta σ H (.ref a)) (h1 : 12 ≤ s.changes.length → Raised K B H E [-8]) (h2 : s.changes.length < 12 → D.nx σ H) :
    tDrop (tMeth (gad K "Session") "ask_room" (spAskR K) [] E ta tNil) D σ H :=
  s_dropN (s_self x.sa ho (by decide +kernel) al_nil ⟨B, a, m, b, s, rfl, x.same, x.sa, h1, h2⟩)
theorem st_dem {B H : Hp} {c : Bool} {n : Int} {E : XK} {σ : L2.St} {D : Ends} {tc : TE} (hB : Same B H) (hc : Vl tc σ H (.bl c)) (h1 : c = false → Raised K B H E [n]) (h2 : c = true → D.nx σ H) : tDrop (tCall (spDemand K) [] E (tCons tc (tCons (tC (.int n)) tNil))) D σ H :=
  s_dropN (s_call (al_cons hc (al_cons vl_c al_nil)) ⟨B, c, n, rfl, hB, h1, h2⟩)
/-- a test that lays things -/
theorem st_demA {B H : Hp} {c : Bool} {n : Int} {E : XK} {σ : L2.St} {D : Ends} {tc : TE} (hc : ∀ Q : VK, (∀ B' H', Ext B H B' H' → Q (.bl c) H') → tc σ H Q) (h1 : c = false → Raised K B H E [n]) (h2 : c = true → ∀ B' H', Ext B H B' H' → D.nx σ H') : tDrop (tCall (spDemand K) [] E (tCons tc (tCons (tC (.int n)) tNil))) D σ H :=
  s_dropN (s_callA (s_cons (hc _ fun B' H' e => ⟨B', c, n, rfl, e.s, fun q => (h1 q).ext e, fun q => h2 q B' H' e⟩)))
/-- [x for x in l if test], l ints -/
theorem s_filt {tl : TE} {tt : TT} {vs : List Nat} {j : Nat} {σ : L2.St} {B H : Hp} {la : Addr} {l : List Nat} {f : Nat → Bool} {Q : VK} (s : Same B H) (h : Vl tl σ H (.ref la)) (hla : H la = some (.lst ((toI l).map V.int))) (hz : l.length ≤ 1000) (hw : ∀ x, wipe ((wipe σ vs).set j (some x)) vs = wipe σ vs) (hj : ∀ x, ((wipe σ vs).set j (some x))[j]? = some (some x))
    (ht : ∀ (x : Nat) B1 H1, x ∈ l → Ext B H B1 H1 → ∀ Qt : Bool → Hp → Prop, (∀ B2 H2, Ext B1 H1 B2 H2 → Qt (f x) H2) → tt ((wipe σ vs).set j (some (.int (x : Int)))) H1 Qt)
    (k : Ret B H Q fun B' v => IntsV B' v (toI (l.filter f))) : tLc (iList K tl) (gName j) tt (tVar j) vs σ H Q := by
  refine h _ ⟨la, rfl, ⟨_, SqL.of hla⟩, fun D hD => lc_list (xs := (toI l).map V.int) (fun i H' => ∃ B1, Ext B H B1 H' ∧ B1 D = none ∧ H' D = some (.lst ((toI ((l.take i).filter f)).map V.int))) ?_ ?_ ?_ ?_⟩
  · exact ⟨B, (Ext.refl s).tmp hD, s.free hD, upd_same⟩
  · rintro i H' _ ⟨B1, e, _⟩
    exact SqL.of (e.h _ _ hla)
  · rintro i x H' hi ⟨B1, e, bD, hDl⟩
    refine ⟨hw x, ?_⟩
    rw [List.getElem?_map] at hi
    unfold toI at hi
    rw [List.getElem?_map] at hi
    cases hp : l[i]? with
    | none =>
      rw [hp] at hi
      cases hi
    | some p =>
      rw [hp] at hi
      obtain rfl := Option.some.inj hi
      have hm := List.mem_of_getElem? hp
      have hil := (List.getElem?_eq_some_iff.mp hp).1
      have tk : l.take (i + 1) = l.take i ++ [p] := by rw [List.take_add_one, hp]; rfl
      refine ht p B1 H' hm e _ fun B2 H2 e2 => ?_
      have hD2 := e2.h _ _ hDl
      have bD2 := e2.f _ _ hDl bD
      cases c : f p with
      | true =>
        refine iteT (vl_var (hj _) _ ⟨_, hD2, szlt ?_, B2, (e.trans e2).mut hD bD2, bD2, ?_⟩)
        · rw [List.length_map, toI_len]
          have := List.length_filter_le f (l.take i)
          rw [List.length_take] at this
          omega
        · rw [upd_same, tk, List.filter_append, toI_append, List.map_append]
          simp [c]
      | false =>
        refine iteF ⟨B2, e.trans e2, bD2, ?_⟩
        rw [hD2, tk, List.filter_append]
        simp [c]
  · rintro H' ⟨B1, e, bD, hDl⟩
    rw [List.length_map, toI_len, List.take_length] at hDl
    exact k _ _ _ (e.keep hD bD hDl) ⟨D, rfl, upd_same⟩

/-! ### fork -/
def spFork (K : PySem.W.Frag) : Sp := fun vs H Q E => ∃ (B : Hp) (a m b : Addr) (s : State) (n : Nat), vs = [.ref a, .int (n : Int)] ∧ Met K B H a m b s ∧ Out K B H a m b s (Gf13.step s (.base (.branch n))) Q E
theorem SA.addB {B H : Hp} {a m b : Addr} {s : State} (x : SA K B H a m b s) {l : List Nat} {ws : List V} {p : Addr} (hb : H b = some (.lst ws)) (hp : B p = some (.lst ((toI l).map V.int))) : SA K B (upd H b (.lst (ws ++ [.ref p]))) a m b { s with branches := s.branches ++ [l] } := by
  obtain ⟨⟨dx, h1⟩, h2, h3, h4, ⟨vs, h5, h6, h7⟩, ⟨us, h8, h9⟩⟩ := x
  rw [hb] at h8
  cases h8
  have ab : a ≠ b := fun z => by
    rw [z, hb] at h1
    cases h1
  refine ⟨⟨dx, (upd_ne ab).trans h1⟩, h2, h3, h4, ⟨vs, (upd_ne h2).trans h5, h6, h7⟩, ⟨_, upd_same, ?_⟩⟩
  show All2 _ _ ((s.branches ++ [l]).map toI)
  rw [List.map_append]
  exact h9.snoc ⟨p, rfl, hp⟩
theorem ok_fork (T : Txt K mg) : DOk P w K mg base (L2.CX P w) 5 (mad K "Session" "fork") p_Session_fork (spFork K) := by
  refine ok_of_Session_fork T (ok_ask_branch T) (ok_demand T) (fun vs H Q E h => ?_) fun vs H Q E h => ?_
  · obtain ⟨B, a, m, b, s, n, rfl, _⟩ := h
    rfl
  obtain ⟨B, a, m, b, s, n, rfl, x, o⟩ := h
  have hB := x.same
  refine s_seq (s_askB x (vl_var rfl) (vl_var rfl) (fun hn => ?_) fun l hl => ?_)
  · have e : Gf13.step s (.base (.branch n)) = (s, Gf11.ok (-2)) := by
      show Gf11.withBranch s n _ = _
      unfold Gf11.withBranch
      rw [hn]
    exact (o.eq e).no rfl
  have e0 : Gf13.step s (.base (.branch n)) = if Gf11.MAX_BRANCHES ≤ s.branches.length then (s, Gf11.ok (-8)) else ({ s with branches := s.branches ++ [l] }, Gf11.natResult s.branches.length) := by
    show Gf11.withBranch s n _ = _
    unfold Gf11.withBranch
    rw [hl]
  obtain ⟨ws, la, hb, hwl, hw, hla⟩ := x.sa.branch hl
  dsimp only
  refine s_seq (st_dem (n := -8) hB (vl_lt (vl_lenL (x.vB T (vl_var rfl)) (SqL.of hb)) vl_c) (fun hc => ?_) fun hc => ?_)
  · have := of_decide_eq_false hc
    refine (o.eq (e0.trans (if_pos ?_))).no rfl
    show 5 ≤ _
    omega
  have h5 : ¬ Gf11.MAX_BRANCHES ≤ s.branches.length := by
    have := of_decide_eq_true hc
    show ¬ 5 ≤ _
    omega
  have o1 := o.eq (e0.trans (if_neg h5))
  dsimp only
  refine s_seq (s_dropN (s_bm (x.vB T (vl_var rfl) _ ⟨.inl ⟨rfl, _, SqL.of hb⟩, s_cons (s_cb (s_cons (vl_ixL (j := n) (x.vB T (vl_var rfl)) (vl_var rfl) (SqL.of hb) hw _ ⟨la, _, rfl, .inl (SqL.of (hB _ _ hla)), fun q hq => ?_⟩)))⟩)))
  have e1 := (Ext.refl hB).new (o := .lst ((toI l).map V.int)) hq
  have x1 := x.ext e1
  have hb1 := e1.h _ _ hb
  have hq1 : (upd B q (.lst ((toI l).map V.int))) q = some (.lst ((toI l).map V.int)) := upd_same
  refine ⟨b, ws, .ref q, rfl, rfl, hb1, szlt (by rw [hwl]; have := x.good.nb; omega), ?_⟩
  have x2 : ExtS m b B H _ _ := e1.toS.put (o := .lst (ws ++ [.ref q])) (.inr rfl) x1.sa.Bb
  have hS2 := x1.sa.addB hb1 hq1
  have hb2 : (upd (upd H q (.lst ((toI l).map V.int))) b (.lst (ws ++ [.ref q]))) b = some (.lst (ws ++ [.ref q])) := upd_same
  obtain ⟨dx2, ha2⟩ := hS2.ins
  dsimp only
  refine s_retN (s_lst (al_cons (vl_sub (vl_lenL (vl_fld (vl_var rfl) ha2 T.cl_Session T.a_Session_branches fS_branches) (SqL.of hb2)) vl_c) al_nil) (by show 1 ≤ 1000; decide) fun r hr => ?_)
  have e3 : Ext _ _ _ _ := (Ext.refl x2.s).new (o := .lst [V.int (((ws ++ [V.ref q]).length : Nat) - 1)]) hr
  refine o1.yes _ _ _ (hS2.ex x2 e3) (hS2.ext e3) ⟨r, rfl, ?_⟩
  rw [upd_same]
  have : (((ws ++ [V.ref q]).length : Nat) : Int) - 1 = (s.branches.length : Int) := by
    rw [List.length_append, List.length_singleton, hwl]
    omega
  rw [this]
  rfl
end
end Lg

-- ==== LgP17 ====
set_option Elab.async false
set_option linter.all false
set_option maxRecDepth 100000
set_option maxHeartbeats 4000000
/-! LgP17: apply, merge, revert. -/
namespace Lg
open PySem PySem.Spec PyProof.Rows L2
open Gf11 (Line Position Change Hunk State insertNat)
section
variable {P : Program} {w : World} {K : PySem.W.Frag} {mg : Str → Option Value} {base : Heap}
/-- told_row's call -/
theorem s_row {B H : Hp} {σ : L2.St} {te : TE} {v : V} {ns : List Int} {Q : VK} (hB : Same B H) (h : Vl te σ H v) (hv : IntsV B v ns) (hz : ns.length ≤ 1000000) (k : Ret B H Q fun B' v => IntsV B' v ((ns.length : Int) :: ns)) : tCall (spRow K) [] E0 (tCons te tNil) σ H Q :=
  s_call (al_cons h al_nil) ⟨B, v, ns, rfl, hB, hv, hz, k⟩
/-- [n] + told_row(e) -/
theorem s_catRow {B H : Hp} {σ : L2.St} {te : TE} {n : Int} {Q : VK} (hB : Same B H) {ns : List Int} (hz : ns.length ≤ 100000) (h : ∀ Q : VK, Ret B H Q (fun B' v => IntsV B' v ns) → te σ H Q) (hm : ∀ H1, Same H H1 → ∀ Q : VK, Ret B H1 Q (fun B' v => IntsV B' v ns) → te σ H1 Q)
    (k : Ret B H Q fun B' v => IntsV B' v (n :: ns)) : tOp rCat (tLst (tCons (tC (.int n)) tNil)) te σ H Q := by
  refine s_op (s_lst (al_cons vl_c al_nil) (by show 1 ≤ 1000; decide) fun p hp => ?_)
  have e1 := (Ext.refl hB).tmp (o := .lst [V.int n]) hp
  refine hm _ e1.h _ fun B2 H2 v e2 r2 => ?_
  obtain ⟨a, rfl, ha⟩ := r2
  have hp2 : H2 p = some (.lst [V.int n]) := e2.h _ _ upd_same
  refine ⟨p, a, _, _, rfl, rfl, hp2, e2.s _ _ ha, szl (by simp only [List.length_map, List.length_cons, List.length_nil]; omega), fun q hq => ?_⟩
  exact k _ _ _ ((e1.trans e2).new hq) ⟨q, rfl, upd_same⟩
/-- raise Refused([n] + told_row(x)) -/
theorem s_refRow {B H : Hp} {σ : L2.St} {te : TE} {v : V} {n : Int} {ns : List Int} {E : XK} {D : Ends} (hB : Same B H) (h : ∀ H1, Same H H1 → Vl te σ H1 v) (hv : IntsV B v ns) (hz : ns.length ≤ 10000) (r : Raised K B H E (n :: (ns.length : Int) :: ns)) :
    tRaiseRef (gad K "Refused") (fun cls d _ H => E cls d H) (tCons (tOp rCat (tLst (tCons (tC (.int n)) tNil)) (tCall (spRow K) [] E0 (tCons te tNil))) tNil) D σ H := by
  refine s_raiseRef (s_cons (s_catRow (B := B) (ns := (ns.length : Int) :: ns) hB (by rw [List.length_cons]; omega) (fun Q k => s_row hB (h _ (Same.refl H)) hv (by omega) k) (fun H1 e Q k => s_row (hB.trans e) (h _ e) hv (by omega) k) fun B2 H2 v2 e2 r2 => ⟨_, rfl, ?_⟩))
  obtain ⟨a, rfl, ha⟩ := r2
  exact raise_step r e2 ha
/-- a change's dependencies asked for -/
theorem s_deps {B H : Hp} {a m b : Addr} {s : State} {σ : L2.St} {te ti : TE} {n : Nat} {c : Change} {Q : VK} (T : Txt K mg) (x : Met K B H a m b s) (h : Vl te σ H (.ref a)) (hi : Vl ti σ H (.int (n : Int))) (hc : s.changes[n]? = some c) (k : Ret B H Q fun B' v => IntsV B' v (toI (Gf11.dependencies c))) :
    tMeth (gad K "Change") "dependencies" (spDeps K) [] E0 (tOp (rIxL K) (tFld K te "made") ti) tNil σ H Q := by
  obtain ⟨vs, cv, hm, _, hv, rv⟩ := x.sa.change hc
  have rv' := rv
  obtain ⟨ca, cdx, hs, ds, ls, rfl, ho, _⟩ := rv'
  refine s_meth (vl_ixL (j := n) (x.vM T h) hi (SqL.of hm) hv) (x.same _ _ ho) fC_dependencies al_nil ⟨B, .ref ca, n, c, rfl, x.same, rv, (x.good.ok n c hc).small, fun p hp => ?_, k⟩
  have h1 := x.good.deps n p (by unfold depsOf Gf13.dependenciesOf; rw [hc]; exact hp)
  have h2 := x.good.nc
  have h3 := (List.getElem?_eq_some_iff.mp hc).1
  omega
theorem deps_len {s : State} (g : Good s) {n : Nat} {c : Change} (hc : s.changes[n]? = some c) : (Gf11.dependencies c).length ≤ 12 := by
  have h3 := (List.getElem?_eq_some_iff.mp hc).1
  have h2 := g.nc
  refine Nat.le_trans (up_len0 (n := s.changes.length) (up_deps c) fun x hx => ?_) h2
  have h1 := g.deps n x (by unfold depsOf Gf13.dependenciesOf; rw [hc]; exact hx)
  omega
theorem in_toI {n : Nat} {l : List Nat} : decide ((n : Int) ∈ toI l) = decide (n ∈ l) := by
  by_cases h : n ∈ l
  · rw [decide_eq_true h, decide_eq_true (toI_mem.mpr h)]
  · rw [decide_eq_false h, decide_eq_false (fun z => h (toI_mem.mp z))]
theorem Up.take60 {s : State} (g : Good s) {l ns : List Nat} (h1 : ∀ x ∈ l, x < s.changes.length) (h2 : ∀ x ∈ ns, x < s.changes.length) : ∀ x ∈ addTo l ns, x < 60 := fun x hx => by
  unfold addTo at hx
  rw [mem_fold] at hx
  have := g.nc
  rcases hx with hx | hx
  · have := h1 x hx
    omega
  · have := h2 x hx
    omega
/-- len(self.branches[n]) behind an add -/
theorem SA.lenB {B H : Hp} {a m b : Addr} {s : State} (x : SA K B H a m b s) (T : Txt K mg) {σ : L2.St} {te ti : TE} {n : Nat} {l : List Nat} (s0 : Same B H) (h : Vl te σ H (.ref a)) (hi : Vl ti σ H (.int (n : Int))) (hl : s.branches[n]? = some l) : Vl (tCB (rLen K) (tCons (tOp (rIxL K) (tFld K te "branches") ti) tNil)) σ H (.int (l.length : Nat)) := by
  obtain ⟨ws, la, hb, hwl, hw, hla⟩ := x.branch hl
  obtain ⟨dx, ha⟩ := x.ins
  have := vl_lenL (vl_ixL (j := n) (vl_fld h ha T.cl_Session T.a_Session_branches fS_branches) hi (SqL.of (K := K) hb) hw) (SqL.of (K := K) (s0 _ _ hla))
  rw [List.length_map, toI_len] at this
  exact this
theorem withB_get {s : State} {n : Nat} {l l' : List Nat} (hl : s.branches[n]? = some l) : (withB s n l').branches[n]? = some l' := by
  unfold withB
  show (s.branches.set n l')[n]? = _
  rw [List.getElem?_set, if_pos rfl, if_pos (List.getElem?_eq_some_iff.mp hl).1]

/-! ### apply -/
def spApply (K : PySem.W.Frag) : Sp := fun vs H Q E => ∃ (B : Hp) (a m b : Addr) (s : State) (n p : Nat), vs = [.ref a, .int (n : Int), .int (p : Int)] ∧ Met K B H a m b s ∧ Out K B H a m b s (Gf13.step s (.base (.apply n p))) Q E
theorem ok_apply (T : Txt K mg) : DOk P w K mg base (L2.CX P w) 5 (mad K "Session" "apply") p_Session_apply (spApply K) := by
  refine ok_of_Session_apply T (ok_ask_branch T) (ok_ask_change T) (ok_demand T) (ok_Change_dependencies T) (ok_told_row T) (ok_add T) (fun vs H Q E h => ?_) fun vs H Q E h => ?_
  · obtain ⟨B, a, m, b, s, n, p, rfl, _⟩ := h
    rfl
  obtain ⟨B, a, m, b, s, n, p, rfl, x, o⟩ := h
  have hB := x.same
  have g := x.good
  refine s_seq (s_askB x (vl_var rfl) (vl_var rfl) (fun hn => ?_) fun l hl => ?_)
  · have e : Gf13.step s (.base (.apply n p)) = (s, Gf11.ok (-2)) := by
      show Gf11.withBranch s n _ = _
      unfold Gf11.withBranch
      rw [hn]
    exact (o.eq e).no rfl
  have e0 : Gf13.step s (.base (.apply n p)) = if s.changes.length ≤ p then (s, Gf11.ok (-3)) else if l.contains p = true then (s, Gf11.ok (-6)) else
    let n' := Gf11.missingDependencies s l p
    if n'.isEmpty = false then (s, ⟨-4, Gf11.toInts (n'.length :: n')⟩) else ({ s with branches := s.branches.set n (insertNat p l) }, Gf11.natResult (l.length + 1)) := by
    show Gf11.withBranch s n _ = _
    unfold Gf11.withBranch
    rw [hl]
  have hlb := List.mem_of_getElem? hl
  obtain ⟨ws, la, hb, hwl, hw, hla⟩ := x.sa.branch hl
  dsimp only
  refine s_seq (s_askC x (vl_var rfl) (vl_var rfl) (fun hp => ?_) fun c hc => ?_)
  · refine (o.eq (e0.trans (if_pos ?_))).no rfl
    exact List.getElem?_eq_none_iff.mp hp
  have hpl := (List.getElem?_eq_some_iff.mp hc).1
  have e1 := e0.trans (if_neg (show ¬ s.changes.length ≤ p by omega))
  dsimp only
  refine s_seq (s_set (vl_ixL (j := n) (x.vB T (vl_var rfl)) (vl_var rfl) (SqL.of hb) hw) ?_)
  dsimp only
  refine s_seq (st_dem (n := -6) hB (vl_notin (vl_var rfl) (vl_var rfl) (.inl (SqL.of (hB _ _ hla)))) (fun hq => ?_) fun hq => ?_)
  · rw [in_toI] at hq
    refine (o.eq (e1.trans (if_pos ?_))).no rfl
    rw [cont_dec]
    cases q : decide (p ∈ l) with
    | true => rfl
    | false =>
      rw [q] at hq
      cases hq
  have hpn : p ∉ l := fun z => by
    rw [in_toI, decide_eq_true z] at hq
    cases hq
  have e2 := e1.trans (if_neg (by rw [cont_dec, decide_eq_false hpn]; exact Bool.false_ne_true))
  have emiss : Gf11.missingDependencies s l p = newIn l (Gf11.dependencies c) := by
    unfold Gf11.missingDependencies newIn
    rw [hc]
    refine List.filter_congr fun y _ => ?_
    rw [cont_dec]
  dsimp only at e2
  rw [emiss] at e2
  have dl := deps_len g hc
  have nl : (newIn l (Gf11.dependencies c)).length ≤ 12 := Nat.le_trans (List.length_filter_le _ _) dl
  generalize hmi : newIn l (Gf11.dependencies c) = miss at e2 nl
  dsimp only
  refine s_seq (s_asgN (s_lcPre (s_deps T x (vl_var rfl) (vl_var rfl) hc fun B1 H1 dv d1 r1 => ?_)))
  obtain ⟨da, rfl, hda⟩ := r1
  refine s_notIn (fa := la) (l := l) (m := Gf11.dependencies c) d1.s vl_c (d1.s _ _ hda) (by omega) (fun _ => rfl) (fun _ => rfl) (fun _ _ _ => vl_var rfl) (d1.h _ _ (hB _ _ hla)) fun B2 H2 mv d2 r2 => ?_
  rw [hmi] at r2
  have d12 := d1.trans d2
  have x2 := x.ext d12
  have r2' := r2
  obtain ⟨ma, rfl, hma⟩ := r2'
  dsimp only
  refine s_seq (s_ifA (s_neNilI (vl_var rfl) (d2.s _ _ hma) fun q hq => ⟨_, rfl, ?_⟩))
  have d3 := d12.tmp (o := .lst []) hq
  have x3 := x.ext d3
  generalize upd H2 q (.lst []) = H3 at d3 x3
  cases hem : (toI miss).isEmpty with
  | false =>
    refine iteT ?_
    have hem2 : miss.isEmpty = false := by
      rw [← hem]
      cases miss <;> rfl
    have o2 := o.eq (e2.trans (if_pos hem2))
    refine s_refRow x3.same (fun H4 e4 => vl_var rfl) ⟨ma, rfl, hma⟩ (by rw [toI_len]; omega) ?_
    rw [toI_len]
    exact (o2.no rfl).ext d3
  | true =>
    refine iteF ?_
    have hem2 : ¬ miss.isEmpty = false := by
      rw [show miss.isEmpty = (toI miss).isEmpty by cases miss <;> rfl, hem]
      exact fun z => nomatch z
    have o2 := o.eq (e2.trans (if_neg hem2))
    refine s_seq (s_dropN (s_selfA x3.sa (vl_var rfl) (by decide +kernel) (s_cons (vl_var rfl _ (s_cons (s_lst (al_cons (vl_var rfl) al_nil) (by show 1 ≤ 1000; decide) fun z hz => ?_))))))
    have d4 := (Ext.refl x3.same).new (o := .lst [V.int (p : Int)]) hz
    have x4 := x3.ext d4
    refine ⟨_, a, m, b, s, n, l, [p], .ref z, rfl, x4.same, x4.sa, hl, (g.up l hlb).1, ⟨z, rfl, upd_same⟩, ?_, Up.take60 g (g.up l hlb).2 (fun y hy => by rw [List.mem_singleton.mp hy]; exact hpl), fun B5 H5 d5 s5 => ?_⟩
    · have := g.bn hlb
      show l.length + 1 ≤ 100
      omega
    · have l5 := s5.lenB T (σ := [some (V.ref a), some (.int (n : Int)), some (.int (p : Int)), some (.ref la), some (.ref ma), none]) d5.s (vl_var (i := 0) rfl) (vl_var (i := 1) rfl) (withB_get hl)
      refine s_retN (s_lst (al_cons l5 al_nil) (by show 1 ≤ 1000; decide) fun r hr => ?_)
      have d6 := (Ext.refl d5.s).new (o := .lst [V.int ((addTo l [p]).length : Nat)]) hr
      have t1 : ExtS m b B H _ _ := x4.sa.ex2 ((d3.trans d4).toS) d5
      refine o2.yes _ _ _ (s5.ex t1 d6) (s5.ext d6) ⟨r, rfl, ?_⟩
      rw [upd_same, show (addTo l [p]).length = l.length + 1 from ins_len hpn]
      rfl

/-! ### merge -/
def spMerge (K : PySem.W.Frag) : Sp := fun vs H Q E => ∃ (B : Hp) (a m b : Addr) (s : State) (n p : Nat), vs = [.ref a, .int (n : Int), .int (p : Int)] ∧ Met K B H a m b s ∧ Out K B H a m b s (Gf13.step s (.base (.merge n p))) Q E
theorem ok_merge (T : Txt K mg) : DOk P w K mg base (L2.CX P w) 5 (mad K "Session" "merge") p_Session_merge (spMerge K) := by
  refine ok_of_Session_merge T (ok_ask_branch T) (ok_add T) (fun vs H Q E h => ?_) fun vs H Q E h => ?_
  · obtain ⟨B, a, m, b, s, n, p, rfl, _⟩ := h
    rfl
  obtain ⟨B, a, m, b, s, n, p, rfl, x, o⟩ := h
  have hB := x.same
  have g := x.good
  refine s_seq (s_askB x (vl_var rfl) (vl_var rfl) (fun hn => ?_) fun l hl => ?_)
  · have e : Gf13.step s (.base (.merge n p)) = (s, Gf11.ok (-2)) := by
      show Gf11.withBranch s n _ = _
      unfold Gf11.withBranch
      rw [hn]
    exact (o.eq e).no rfl
  have e0 : Gf13.step s (.base (.merge n p)) = Gf11.withBranch s p fun r =>
    let n' := r.foldl (fun l p => insertNat p l) l
    ({ s with branches := s.branches.set n n' }, Gf11.natResult (n'.length - l.length)) := by
    show Gf11.withBranch s n _ = _
    unfold Gf11.withBranch
    rw [hl]
  dsimp only
  refine s_seq (s_askB x (vl_var rfl) (vl_var rfl) (fun hn => ?_) fun r hr => ?_)
  · have e : Gf13.step s (.base (.merge n p)) = (s, Gf11.ok (-2)) := by
      rw [e0]
      unfold Gf11.withBranch
      rw [hn]
    exact (o.eq e).no rfl
  have e1 : Gf13.step s (.base (.merge n p)) = (withB s n (addTo l r), Gf11.natResult ((addTo l r).length - l.length)) := by
    rw [e0]
    unfold Gf11.withBranch
    rw [hr]
    rfl
  have o1 := o.eq e1
  have hlb := List.mem_of_getElem? hl
  have hrb := List.mem_of_getElem? hr
  obtain ⟨ws, la, hb, hwl, hw, hla⟩ := x.sa.branch hl
  obtain ⟨ws2, ra, hb2, hwl2, hw2, hra⟩ := x.sa.branch hr
  rw [hb] at hb2
  cases hb2
  dsimp only
  refine s_seq (s_set (x.sa.lenB T hB (vl_var rfl) (vl_var rfl) hl) ?_)
  dsimp only
  refine s_seq (s_dropN (s_self x.sa (vl_var rfl) (by decide +kernel) (al_cons (vl_var rfl) (al_cons (vl_ixL (j := p) (x.vB T (vl_var rfl)) (vl_var rfl) (SqL.of hb) hw2) al_nil)) ?_))
  refine ⟨_, a, m, b, s, n, l, r, .ref ra, rfl, hB, x.sa, hl, (g.up l hlb).1, ⟨ra, rfl, hra⟩, ?_, Up.take60 g (g.up l hlb).2 (g.up r hrb).2, fun B5 H5 d5 s5 => ?_⟩
  · have := g.bn hlb
    have := g.bn hrb
    omega
  have l5 := s5.lenB T (σ := [some (V.ref a), some (.int (n : Int)), some (.int (p : Int)), some (.int (l.length : Nat))]) d5.s (vl_var (i := 0) rfl) (vl_var (i := 1) rfl) (withB_get hl)
  refine s_retN (s_lst (al_cons (vl_sub l5 (vl_var rfl)) al_nil) (by show 1 ≤ 1000; decide) fun z hz => ?_)
  have d6 := (Ext.refl d5.s).new (o := .lst [V.int (((addTo l r).length : Nat) - (l.length : Nat))]) hz
  refine o1.yes _ _ _ (s5.ex d5 d6) (s5.ext d6) ⟨z, rfl, ?_⟩
  rw [upd_same]
  have := add_ge r l
  have e : (((addTo l r).length : Nat) : Int) - ((l.length : Nat) : Int) = (((addTo l r).length - l.length : Nat) : Int) := by omega
  rw [e]
  rfl
end
end Lg

-- ==== LgP18 ====
set_option Elab.async false
set_option linter.all false
set_option maxRecDepth 100000
set_option maxHeartbeats 4000000
/-! LgP18: revert, requirements, apply_all, revert_all, explain. -/
namespace Lg
open PySem PySem.Spec PyProof.Rows L2
open Gf11 (Line Position Change Hunk State insertNat)
theorem len_ne {x : Nat} : ∀ {l : List Nat}, l.Nodup → x ∈ l → (l.filter fun y => y != x).length = l.length - 1
  | [], _, h => by cases h
  | a :: l, hn, h => by
    rw [List.nodup_cons] at hn
    by_cases e : a = x
    · subst e
      have : (l.filter fun y => y != a) = l := List.filter_eq_self.mpr fun y hy => by
        simp only [bne_iff_ne, ne_eq]
        rintro rfl
        exact hn.1 hy
      rw [List.filter_cons, if_neg (by simp), this]
      rfl
    · have hx : x ∈ l := by
        rcases List.mem_cons.mp h with h | h
        · exact absurd h.symm e
        · exact h
      have ih := len_ne hn.2 hx
      rw [List.filter_cons, if_pos (by simp [e]), List.length_cons, ih, List.length_cons]
      have := List.length_pos_of_mem hx
      omega
section
variable {P : Program} {w : World} {K : PySem.W.Frag} {mg : Str → Option Value} {base : Heap}
theorem r_in {H : Hp} {n : Int} {p : Addr} {ns : List Int} {Q : VK} (hs : SqL K H p (ns.map V.int) ∨ SqT K H p (ns.map V.int)) (q : Q (.bl (decide (n ∈ ns))) H) : rIn K false (.int n) (.ref p) H Q :=
  ⟨p, _, rfl, hs, rfl, flat_ints ns, by
    rw [if_neg Bool.false_ne_true, inV_int]
    exact q⟩
theorem r_inT {B H : Hp} {v : V} {p : Addr} {a : List Int} {vs : List V} {l : List (List Int)} {Q : VK} (r1 : TupV K B v a) (hp : H p = some (.lst vs)) (r2 : All2 (TupV K B) vs l) (s : Same B H) (q : Q (.bl (decide (a ∈ l))) H) : rInD K v (.ref p) H Q :=
  ⟨_, l.map tupD, dp_tup r1 s, dp_row hp r2 s, tupD_shaped a, rowD_shaped l, by
    rw [row_any]
    exact q⟩
/-- self.branches[n] = a new list, then on -/
theorem g_setB {B0 H0 B H : Hp} {a m b : Addr} {s : State} {n : Nat} {l l' : List Nat} {te ti : TE} {σ : L2.St} {v : V} {Q : L2.St → Hp → Prop} (T : Txt K mg) (x : Met K B H a m b s) (ex : ExtS m b B0 H0 B H) (hl : s.branches[n]? = some l) (hv : IntsV B v (toI l')) (h : Vl te σ H (.ref a)) (hi : Vl ti σ H (.int (n : Int)))
    (k : ∀ H', ExtS m b B0 H0 B H' → SA K B H' a m b (withB s n l') → Same B H' → Q σ H') : gSub (tFld K te "branches") ti rSetL v σ H Q := by
  obtain ⟨ws, la, hb, hwl, hw, hla⟩ := x.sa.branch hl
  obtain ⟨p, rfl, hp⟩ := hv
  have hn : n < ws.length := (List.getElem?_eq_some_iff.mp hw).1
  have e2 := ex.put (o := .lst (ws.set n (.ref p))) (.inr rfl) x.sa.Bb
  exact x.vB T h _ (hi _ ⟨b, ws, (n : Int), n, rfl, rfl, hb, ixn_at hn, k _ e2 (x.sa.setB hb hn hp) e2.s⟩)

/-! ### revert -/
def spRevert (K : PySem.W.Frag) : Sp := fun vs H Q E => ∃ (B : Hp) (a m b : Addr) (s : State) (n p : Nat), vs = [.ref a, .int (n : Int), .int (p : Int)] ∧ Met K B H a m b s ∧ Out K B H a m b s (Gf13.step s (.base (.revert n p))) Q E
theorem ok_revert (T : Txt K mg) : DOk P w K mg base (L2.CX P w) 5 (mad K "Session" "revert") p_Session_revert (spRevert K) := by
  refine ok_of_Session_revert T (ok_ask_branch T) (ok_demand T) (ok_Change_dependencies T) (ok_told_row T) (fun vs H Q E h => ?_) fun vs H Q E h => ?_
  · obtain ⟨B, a, m, b, s, n, p, rfl, _⟩ := h
    rfl
  obtain ⟨B, a, m, b, s, n, p, rfl, x, o⟩ := h
  have hB := x.same
  have g := x.good
  refine s_seq (s_askB x (vl_var rfl) (vl_var rfl) (fun hn => ?_) fun l hl => ?_)
  · have e : Gf13.step s (.base (.revert n p)) = (s, Gf11.ok (-2)) := by
      show Gf11.withBranch s n _ = _
      unfold Gf11.withBranch
      rw [hn]
    exact (o.eq e).no rfl
  have e0 : Gf13.step s (.base (.revert n p)) = if l.contains p = false then (s, Gf11.ok (-6)) else
    let n' := Gf11.dependents s l p
    if n'.isEmpty = false then (s, ⟨-4, Gf11.toInts (n'.length :: n')⟩) else ({ s with branches := s.branches.set n (l.filter fun q => q != p) }, Gf11.natResult (l.length - 1)) := by
    show Gf11.withBranch s n _ = _
    unfold Gf11.withBranch
    rw [hl]
  have hlb := List.mem_of_getElem? hl
  obtain ⟨ws, la, hb, hwl, hw, hla⟩ := x.sa.branch hl
  have bl := g.bn hlb
  dsimp only
  refine s_seq (s_set (vl_ixL (j := n) (x.vB T (vl_var rfl)) (vl_var rfl) (SqL.of hb) hw) ?_)
  dsimp only
  refine s_seq (st_dem (n := -6) hB (vl_in (vl_var rfl) (vl_var rfl) (.inl (SqL.of (hB _ _ hla)))) (fun hq => ?_) fun hq => ?_)
  · rw [in_toI] at hq
    refine (o.eq (e0.trans (if_pos ?_))).no rfl
    rw [cont_dec]
    exact hq
  have hpn : p ∈ l := by
    rw [in_toI] at hq
    exact of_decide_eq_true hq
  have e2 := e0.trans (if_neg (by rw [cont_dec, decide_eq_true hpn]; exact fun z => nomatch z))
  dsimp only at e2
  have edep : Gf11.dependents s l p = l.filter fun q => decide (p ∈ (((s.changes[q]?).map Gf11.dependencies).getD [])) := by
    unfold Gf11.dependents
    refine List.filter_congr fun y _ => ?_
    rw [cont_dec]
  rw [edep] at e2
  have nl : (l.filter fun q => decide (p ∈ (((s.changes[q]?).map Gf11.dependencies).getD []))).length ≤ 12 := Nat.le_trans (List.length_filter_le _ _) bl
  dsimp only
  refine s_seq (s_asgN (s_filt (l := l) (f := fun q => decide (p ∈ (((s.changes[q]?).map Gf11.dependencies).getD []))) hB (vl_var rfl) (hB _ _ hla) (by omega) (fun _ => rfl) (fun _ => rfl) (fun q B1 H1 hq d1 Qt kt => ?_) fun B2 H2 uv d2 r2 => ?_))
  · have x1 := x.ext d1
    have hqc := (g.up l hlb).2 q hq
    have hc : s.changes[q]? = some s.changes[q] := List.getElem?_eq_getElem hqc
    refine s_testA (s_op (vl_var (i := 2) rfl _ (s_deps T x1 (vl_var rfl) (vl_var rfl) hc fun B3 H3 dv d3 r3 => ?_)))
    obtain ⟨da, rfl, hda⟩ := r3
    have key := kt B3 H3 d3
    refine r_in (.inl (SqL.of (d3.s _ _ hda))) ⟨_, rfl, ?_⟩
    rw [in_toI]
    rw [hc] at key
    exact key
  · generalize (l.filter fun q => decide (p ∈ (((s.changes[q]?).map Gf11.dependencies).getD []))) = users at e2 nl r2
    have x2 := x.ext d2
    obtain ⟨ma, rfl, hma⟩ := r2
    dsimp only
    refine s_seq (s_ifA (s_neNilI (vl_var rfl) (d2.s _ _ hma) fun q hq => ⟨_, rfl, ?_⟩))
    have d3 := d2.tmp (o := .lst []) hq
    have x3 := x.ext d3
    generalize upd H2 q (.lst []) = H3 at d3 x3
    cases hem : (toI users).isEmpty with
    | false =>
      refine iteT ?_
      have hem2 : users.isEmpty = false := by
        rw [← hem]
        cases users <;> rfl
      have o2 := o.eq (e2.trans (if_pos hem2))
      refine s_refRow x3.same (fun H4 e4 => vl_var rfl) ⟨ma, rfl, hma⟩ (by rw [toI_len]; omega) ?_
      rw [toI_len]
      exact (o2.no rfl).ext d3
    | true =>
      refine iteF ?_
      have hem2 : ¬ users.isEmpty = false := by
        rw [show users.isEmpty = (toI users).isEmpty by cases users <;> rfl, hem]
        exact fun z => nomatch z
      have o2 := o.eq (e2.trans (if_neg hem2))
      dsimp only
      refine s_seq (s_asg (s_filt (l := l) (f := fun q => q != p) x3.same (vl_var rfl) (d3.s _ _ (d3.b _ _ hla)) (by omega) (fun _ => rfl) (fun _ => rfl) (fun q B4 H4 hq d4 Qt kt => ?_) fun B4 H4 nv d4 r4 => ?_))
      · refine Tl.to (tl_test (vl_neI (vl_var rfl) (vl_var rfl))) ?_ _ (kt B4 H4 (Ext.refl d4.s))
        by_cases c : q = p
        · simp [c]
        · have : ¬ (q : Int) = (p : Int) := by omega
          simp [c, this]
      · have x4 := x3.ext d4
        refine g_setB T x4 ((d3.trans d4).toS) hl r4 (vl_var rfl) (vl_var rfl) fun H5 d5 s5 sm5 => ?_
        dsimp only
        refine s_retN (s_lst (al_cons (s5.lenB T sm5 (vl_var rfl) (vl_var rfl) (withB_get hl)) al_nil) (by show 1 ≤ 1000; decide) fun r hr => ?_)
        have d6 := (Ext.refl d5.s).new (o := .lst [V.int ((l.filter fun q => q != p).length : Nat)]) hr
        refine o2.yes _ _ _ (s5.ex d5 d6) (s5.ext d6) ⟨r, rfl, ?_⟩
        rw [upd_same, len_ne (up_nodup (g.up l hlb).1) hpn]
        rfl

/-! ### requirements -/
theorem s_req {B H : Hp} {a m b : Addr} {s : State} {σ : L2.St} {te ti : TE} {n : Nat} {Q : VK} (x : Met K B H a m b s) (h : Vl te σ H (.ref a)) (hi : Vl ti σ H (.int (n : Int))) (hn : n < s.changes.length) (k : Ret B H Q fun B' v => IntsV B' v (toI (Gf13.allDependencies s n))) :
    tMeth (gad K "Session") "required" (spRequired K) [] E0 te (tCons ti tNil) σ H Q := s_self x.sa h (by decide +kernel) (al_cons hi al_nil) ⟨B, a, m, b, s, n, rfl, x.same, x.sa, x.good, hn, k⟩
theorem all_len {s : State} (g : Good s) {n : Nat} (hn : n < s.changes.length) : (Gf13.allDependencies s n).length ≤ 12 := by
  have h2 := g.nc
  refine Nat.le_trans (up_len0 (n := s.changes.length) (up_all s n) fun x hx => ?_) h2
  have := all_le g.deps hx
  omega
def spReqs (K : PySem.W.Frag) : Sp := fun vs H Q E => ∃ (B : Hp) (a m b : Addr) (s : State) (p : Nat), vs = [.ref a, .int (p : Int)] ∧ Met K B H a m b s ∧ Out K B H a m b s (Gf13.step s (.requirements p)) Q E
theorem ok_requirements (T : Txt K mg) : DOk P w K mg base (L2.CX P w) 5 (mad K "Session" "requirements") p_Session_requirements (spReqs K) := by
  refine ok_of_Session_requirements T (ok_ask_change T) (ok_told_row T) (ok_required T) (fun vs H Q E h => ?_) fun vs H Q E h => ?_
  · obtain ⟨B, a, m, b, s, p, rfl, _⟩ := h
    rfl
  obtain ⟨B, a, m, b, s, p, rfl, x, o⟩ := h
  have hB := x.same
  have g := x.good
  have e0 : Gf13.step s (.requirements p) = (s, if s.changes.length ≤ p then Gf13.ok (-3) else Gf13.listResult (Gf13.allDependencies s p)) := rfl
  refine s_seq (s_askC x (vl_var rfl) (vl_var rfl) (fun hp => ?_) fun c hc => ?_)
  · rw [if_pos (List.getElem?_eq_none_iff.mp hp)] at e0
    exact (o.eq e0).no rfl
  have hpl := (List.getElem?_eq_some_iff.mp hc).1
  rw [if_neg (by omega)] at e0
  have o1 := o.eq e0
  have al := all_len g hpl
  dsimp only
  refine s_retN (s_callA (s_cons (s_req x (vl_var rfl) (vl_var rfl) hpl fun B1 H1 v1 e1 r1 => ?_)))
  refine ⟨B1, v1, _, rfl, e1.s, r1, by rw [toI_len]; omega, fun B2 H2 v2 e2 r2 => ?_⟩
  rw [toI_len] at r2
  exact o1.yes _ _ _ (e1.trans e2).toS (x.sa.ext (e1.trans e2)) r2

/-! ### apply_all -/
def spApplyAll (K : PySem.W.Frag) : Sp := fun vs H Q E => ∃ (B : Hp) (a m b : Addr) (s : State) (n p : Nat), vs = [.ref a, .int (n : Int), .int (p : Int)] ∧ Met K B H a m b s ∧ Out K B H a m b s (Gf13.step s (.applyWithDependencies n p)) Q E
theorem ok_apply_all (T : Txt K mg) : DOk P w K mg base (L2.CX P w) 5 (mad K "Session" "apply_all") p_Session_apply_all (spApplyAll K) := by
  refine ok_of_Session_apply_all T (ok_ask_branch T) (ok_ask_change T) (ok_demand T) (ok_required T) (ok_add T) (ok_told_row T) (fun vs H Q E h => ?_) fun vs H Q E h => ?_
  · obtain ⟨B, a, m, b, s, n, p, rfl, _⟩ := h
    rfl
  obtain ⟨B, a, m, b, s, n, p, rfl, x, o⟩ := h
  have hB := x.same
  have g := x.good
  refine s_seq (s_askB x (vl_var rfl) (vl_var rfl) (fun hn => ?_) fun l hl => ?_)
  · have e : Gf13.step s (.applyWithDependencies n p) = (s, Gf11.ok (-2)) := by
      show Gf13.withBranch s n _ = _
      unfold Gf13.withBranch
      rw [hn]
      rfl
    exact (o.eq e).no rfl
  have e0 : Gf13.step s (.applyWithDependencies n p) = if s.changes.length ≤ p then (s, Gf13.ok (-3)) else if l.contains p = true then (s, Gf13.ok (-6)) else
    let n' := (Gf13.allDependencies s p).filter fun q => !l.contains q
    ({ s with branches := s.branches.set n (n'.foldl (fun r q => insertNat q r) l) }, Gf13.listResult n') := by
    show Gf13.withBranch s n _ = _
    unfold Gf13.withBranch
    rw [hl]
  have hlb := List.mem_of_getElem? hl
  have bl := g.bn hlb
  obtain ⟨ws, la, hb, hwl, hw, hla⟩ := x.sa.branch hl
  dsimp only
  refine s_seq (s_askC x (vl_var rfl) (vl_var rfl) (fun hp => ?_) fun c hc => ?_)
  · refine (o.eq (e0.trans (if_pos ?_))).no rfl
    exact List.getElem?_eq_none_iff.mp hp
  have hpl := (List.getElem?_eq_some_iff.mp hc).1
  have e1 := e0.trans (if_neg (show ¬ s.changes.length ≤ p by omega))
  dsimp only
  refine s_seq (s_set (vl_ixL (j := n) (x.vB T (vl_var rfl)) (vl_var rfl) (SqL.of hb) hw) ?_)
  dsimp only
  refine s_seq (st_dem (n := -6) hB (vl_notin (vl_var rfl) (vl_var rfl) (.inl (SqL.of (hB _ _ hla)))) (fun hq => ?_) fun hq => ?_)
  · rw [in_toI] at hq
    refine (o.eq (e1.trans (if_pos ?_))).no rfl
    rw [cont_dec]
    cases q : decide (p ∈ l) with
    | true => rfl
    | false =>
      rw [q] at hq
      cases hq
  have hpn : p ∉ l := fun z => by
    rw [in_toI, decide_eq_true z] at hq
    cases hq
  have e2 := e1.trans (if_neg (by rw [cont_dec, decide_eq_false hpn]; exact Bool.false_ne_true))
  have emiss : ((Gf13.allDependencies s p).filter fun q => !l.contains q) = newIn l (Gf13.allDependencies s p) := by
    unfold newIn
    refine List.filter_congr fun y _ => ?_
    rw [cont_dec]
  dsimp only at e2
  rw [emiss] at e2
  have o1 := o.eq e2
  have dl := all_len g hpl
  have nl : (newIn l (Gf13.allDependencies s p)).length ≤ 12 := Nat.le_trans (List.length_filter_le _ _) dl
  have nlt : ∀ y ∈ newIn l (Gf13.allDependencies s p), y < s.changes.length := fun y hy => by
    have := all_le g.deps (List.mem_filter.mp hy).1
    omega
  dsimp only
  refine s_seq (s_asgN (s_lcPre (s_req x (vl_var rfl) (vl_var rfl) hpl fun B1 H1 dv d1 r1 => ?_)))
  obtain ⟨da, rfl, hda⟩ := r1
  refine s_notIn (fa := la) (l := l) (m := Gf13.allDependencies s p) d1.s vl_c (d1.s _ _ hda) (by omega) (fun _ => rfl) (fun _ => rfl) (fun _ _ _ => vl_var rfl) (d1.h _ _ (hB _ _ hla)) fun B2 H2 mv d2 r2 => ?_
  generalize newIn l (Gf13.allDependencies s p) = miss at o1 nl r2 nlt
  have d12 := d1.trans d2
  have x2 := x.ext d12
  dsimp only
  refine s_seq (s_dropN (s_self x2.sa (vl_var rfl) (by decide +kernel) (al_cons (vl_var rfl) (al_cons (vl_var rfl) al_nil)) ?_))
  refine ⟨B2, a, m, b, s, n, l, miss, mv, rfl, x2.same, x2.sa, hl, (g.up l hlb).1, r2, by omega, Up.take60 g (g.up l hlb).2 nlt, fun B5 H5 d5 s5 => ?_⟩
  have t1 : ExtS m b B H B5 H5 := x2.sa.ex2 d12.toS d5
  refine s_retN (s_row d5.s (vl_var rfl) (mono_ints _ _ _ _ d5.b r2) (by rw [toI_len]; omega) fun B6 H6 v6 d6 r6 => ?_)
  rw [toI_len] at r6
  exact o1.yes _ _ _ (s5.ex t1 d6) (s5.ext d6) r6

/-! ### revert_all -/
def spRevertAll (K : PySem.W.Frag) : Sp := fun vs H Q E => ∃ (B : Hp) (a m b : Addr) (s : State) (n p : Nat), vs = [.ref a, .int (n : Int), .int (p : Int)] ∧ Met K B H a m b s ∧ Out K B H a m b s (Gf13.step s (.revertWithDependents n p)) Q E
theorem ok_revert_all (T : Txt K mg) : DOk P w K mg base (L2.CX P w) 5 (mad K "Session" "revert_all") p_Session_revert_all (spRevertAll K) := by
  refine ok_of_Session_revert_all T (ok_ask_branch T) (ok_demand T) (ok_required T) (ok_told_row T) (fun vs H Q E h => ?_) fun vs H Q E h => ?_
  · obtain ⟨B, a, m, b, s, n, p, rfl, _⟩ := h
    rfl
  obtain ⟨B, a, m, b, s, n, p, rfl, x, o⟩ := h
  have hB := x.same
  have g := x.good
  refine s_seq (s_askB x (vl_var rfl) (vl_var rfl) (fun hn => ?_) fun l hl => ?_)
  · have e : Gf13.step s (.revertWithDependents n p) = (s, Gf11.ok (-2)) := by
      show Gf13.withBranch s n _ = _
      unfold Gf13.withBranch
      rw [hn]
      rfl
    exact (o.eq e).no rfl
  have e0 : Gf13.step s (.revertWithDependents n p) = if l.contains p = false then (s, Gf13.ok (-6)) else
    let k := Gf13.withoutDependents s l p
    ({ s with branches := s.branches.set n k }, Gf13.listResult (l.filter fun q => !k.contains q)) := by
    show Gf13.withBranch s n _ = _
    unfold Gf13.withBranch
    rw [hl]
  have hlb := List.mem_of_getElem? hl
  have bl := g.bn hlb
  obtain ⟨ws, la, hb, hwl, hw, hla⟩ := x.sa.branch hl
  dsimp only
  refine s_seq (s_set (vl_ixL (j := n) (x.vB T (vl_var rfl)) (vl_var rfl) (SqL.of hb) hw) ?_)
  dsimp only
  refine s_seq (st_dem (n := -6) hB (vl_in (vl_var rfl) (vl_var rfl) (.inl (SqL.of (hB _ _ hla)))) (fun hq => ?_) fun hq => ?_)
  · rw [in_toI] at hq
    refine (o.eq (e0.trans (if_pos ?_))).no rfl
    rw [cont_dec]
    exact hq
  have hpn : p ∈ l := by
    rw [in_toI] at hq
    exact of_decide_eq_true hq
  have e2 := e0.trans (if_neg (by rw [cont_dec, decide_eq_true hpn]; exact fun z => nomatch z))
  dsimp only at e2
  have ef : (l.filter fun q => !(Gf13.withoutDependents s l p).contains q) = l.filter fun q => decide (p ∈ Gf13.allDependencies s q) := by
    refine List.filter_congr fun q hq => ?_
    rw [cont_dec]
    unfold Gf13.withoutDependents
    by_cases c : p ∈ Gf13.allDependencies s q
    · rw [decide_eq_true c, decide_eq_false (fun z => ?_)]
      · rfl
      · have := (List.mem_filter.mp z).2
        rw [cont_dec, decide_eq_true c] at this
        cases this
    · rw [decide_eq_false c, decide_eq_true (List.mem_filter.mpr ⟨hq, by rw [cont_dec, decide_eq_false c]; rfl⟩)]
      rfl
  have ek : Gf13.withoutDependents s l p = l.filter fun q => !decide (q ∈ l.filter fun q => decide (p ∈ Gf13.allDependencies s q)) := by
    unfold Gf13.withoutDependents
    refine List.filter_congr fun q hq => ?_
    rw [cont_dec]
    by_cases c : p ∈ Gf13.allDependencies s q
    · have hm : q ∈ l.filter fun q => decide (p ∈ Gf13.allDependencies s q) := List.mem_filter.mpr ⟨hq, decide_eq_true c⟩
      rw [decide_eq_true c, decide_eq_true hm]
    · have hm : ¬ q ∈ l.filter fun q => decide (p ∈ Gf13.allDependencies s q) := fun z => c (of_decide_eq_true (List.mem_filter.mp z).2)
      rw [decide_eq_false c, decide_eq_false hm]
  rw [ef, ek] at e2
  have o2 := o.eq e2
  have nl : (l.filter fun q => decide (p ∈ Gf13.allDependencies s q)).length ≤ 12 := Nat.le_trans (List.length_filter_le _ _) bl
  dsimp only
  refine s_seq (s_asgN (s_filt (l := l) (f := fun q => decide (p ∈ Gf13.allDependencies s q)) hB (vl_var rfl) (hB _ _ hla) (by omega) (fun _ => rfl) (fun _ => rfl) (fun q B1 H1 hq d1 Qt kt => ?_) fun B2 H2 uv d2 r2 => ?_))
  · have x1 := x.ext d1
    have hqc := (g.up l hlb).2 q hq
    refine s_testA (s_op (vl_var (i := 2) rfl _ (s_req x1 (vl_var rfl) (vl_var rfl) hqc fun B3 H3 dv d3 r3 => ?_)))
    obtain ⟨da, rfl, hda⟩ := r3
    have key := kt B3 H3 d3
    refine r_in (.inl (SqL.of (d3.s _ _ hda))) ⟨_, rfl, ?_⟩
    rw [in_toI]
    exact key
  · generalize (l.filter fun q => decide (p ∈ Gf13.allDependencies s q)) = found at o2 nl r2
    have x2 := x.ext d2
    have r2' := r2
    obtain ⟨ma, rfl, hma⟩ := r2'
    dsimp only
    refine s_seq (s_asg (s_filt (l := l) (f := fun q => !decide (q ∈ found)) x2.same (vl_var rfl) (d2.s _ _ (d2.b _ _ hla)) (by omega) (fun _ => rfl) (fun _ => rfl) (fun q B4 H4 hq d4 Qt kt => ?_) fun B4 H4 nv d4 r4 => ?_))
    · refine Tl.to (tl_test (vl_notin (ns := toI found) (vl_var rfl) (vl_var rfl) (.inl (SqL.of (d4.h _ _ (d2.s _ _ hma)))))) (by rw [in_toI]) _ (kt B4 H4 (Ext.refl d4.s))
    · have x4 := x2.ext d4
      refine g_setB T x4 ((d2.trans d4).toS) hl r4 (vl_var rfl) (vl_var rfl) fun H5 d5 s5 sm5 => ?_
      dsimp only
      refine s_retN (s_row sm5 (vl_var rfl) (mono_ints _ _ _ _ d4.b r2) (by rw [toI_len]; omega) fun B6 H6 v6 d6 r6 => ?_)
      rw [toI_len] at r6
      exact o2.yes _ _ _ (s5.ex d5 d6) (s5.ext d6) r6

/-! ### explain -/
def spExplain (K : PySem.W.Frag) : Sp := fun vs H Q E => ∃ (B : Hp) (a m b : Addr) (s : State) (n p i : Nat), vs = [.ref a, .int (n : Int), .int (p : Int), .int (i : Int)] ∧ Met K B H a m b s ∧ Out K B H a m b s (Gf13.step s (.explain n p i)) Q E
theorem ok_explain (T : Txt K mg) : DOk P w K mg base (L2.CX P w) 5 (mad K "Session" "explain") p_Session_explain (spExplain K) := by
  refine ok_of_Session_explain T (ok_ask_branch T) (ok_ask_change T) (ok_demand T) (ok_told_row T) (fun vs H Q E h => ?_) fun vs H Q E h => ?_
  · obtain ⟨B, a, m, b, s, n, p, i, rfl, _⟩ := h
    rfl
  obtain ⟨B, a, m, b, s, n, p, i, rfl, x, o⟩ := h
  have hB := x.same
  have g := x.good
  refine s_seq (s_askB x (vl_var rfl) (vl_var rfl) (fun hn => ?_) fun l hl => ?_)
  · have e : Gf13.step s (.explain n p i) = (s, Gf11.ok (-2)) := by
      show Gf13.withBranch s n _ = _
      unfold Gf13.withBranch
      rw [hn]
      rfl
    exact (o.eq e).no rfl
  have e0 : Gf13.step s (.explain n p i) = (s, if s.changes.length ≤ p then Gf13.ok (-3) else if ((s.changes[p]?).map fun c => decide (i < (Gf11.insertedLines c).length)).getD false = false then Gf13.ok (-3) else
    if l.contains p = false then Gf13.ok 2 else
    let r := Gf13.deletersOf s l (.line p i)
    if r.isEmpty = true then Gf13.ok 1 else ⟨0, Gf13.toInts (r.length :: r)⟩) := by
    show Gf13.withBranch s n _ = _
    unfold Gf13.withBranch
    rw [hl]
  have hlb := List.mem_of_getElem? hl
  have bl := g.bn hlb
  obtain ⟨ws, la, hb, hwl, hw, hla⟩ := x.sa.branch hl
  dsimp only
  refine s_seq (s_askC x (vl_var rfl) (vl_var rfl) (fun hp => ?_) fun c hc => ?_)
  · rw [if_pos (List.getElem?_eq_none_iff.mp hp)] at e0
    exact (o.eq e0).no rfl
  have hpl := (List.getElem?_eq_some_iff.mp hc).1
  rw [if_neg (by omega), hc, show ((some c).map fun c => decide (i < (Gf11.insertedLines c).length)).getD false = decide (i < (Gf11.insertedLines c).length) from rfl] at e0
  obtain ⟨vs, cv, hm, _, hv, ⟨ca, cdx, hs, ds, ls, rfl, ho, _, _, ⟨lna, lvs, rfl, l1, l2⟩⟩⟩ := x.sa.change hc
  dsimp only
  refine s_seq (st_dem (n := -3) hB (vl_lt (vl_var rfl) (vl_lenL (vl_fld (vl_ixL (j := p) (x.vM T (vl_var rfl)) (vl_var rfl) (SqL.of hm) hv) (hB _ _ ho) T.cl_Change T.a_Change_lines fC_lines) (SqL.of (hB _ _ l1)))) (fun hq => ?_) fun hq => ?_)
  · have := of_decide_eq_false hq
    have l2e : lvs.length = (Gf11.insertedLines c).length := l2.1
    rw [if_pos (decide_eq_false (by omega))] at e0
    exact (o.eq e0).no rfl
  have l2e : lvs.length = (Gf11.insertedLines c).length := l2.1
  have hil : i < (Gf11.insertedLines c).length := by
    have := of_decide_eq_true hq
    omega
  rw [if_neg (by rw [decide_eq_true hil]; exact fun z => nomatch z)] at e0
  dsimp only
  refine s_seq (s_set (vl_ixL (j := n) (x.vB T (vl_var rfl)) (vl_var rfl) (SqL.of hb) hw) ?_)
  dsimp only
  refine s_seq (s_if (tl_test (vl_notin (vl_var rfl) (vl_var rfl) (.inl (SqL.of (hB _ _ hla))))) (fun hc2 => ?_) fun hc2 => ?_)
  · rw [in_toI] at hc2
    rw [if_pos (by rw [cont_dec]; cases q : decide (p ∈ l) with
      | false => rfl
      | true =>
        rw [q] at hc2
        cases hc2)] at e0
    have o1 := o.eq e0
    refine s_retN (s_lst (al_cons vl_c al_nil) (by show 1 ≤ 1000; decide) fun r hr => ?_)
    have d6 := (Ext.refl hB).new (o := .lst [V.int 2]) hr
    exact o1.yes _ _ _ d6.toS (x.sa.ext d6) ⟨r, rfl, upd_same⟩
  · rw [in_toI] at hc2
    have hpn : p ∈ l := by
      cases q : decide (p ∈ l) with
      | true => exact of_decide_eq_true q
      | false =>
        rw [q] at hc2
        cases hc2
    rw [if_neg (by rw [cont_dec, decide_eq_true hpn]; exact fun z => nomatch z)] at e0
    have edel : Gf13.deletersOf s l (.line p i) = l.filter fun q => decide (Position.line p i ∈ (((s.changes[q]?).map fun c => c.deleted).getD [])) := by
      unfold Gf13.deletersOf
      refine List.filter_congr fun q _ => ?_
      exact List.contains_eq_mem ..
    dsimp only at e0
    rw [edel] at e0
    have nl : (l.filter fun q => decide (Position.line p i ∈ (((s.changes[q]?).map fun c => c.deleted).getD []))).length ≤ 12 := Nat.le_trans (List.length_filter_le _ _) bl
    dsimp only
    refine s_seq (s_asgN (s_filt (l := l) (f := fun q => decide (Position.line p i ∈ (((s.changes[q]?).map fun c => c.deleted).getD []))) hB (vl_var rfl) (hB _ _ hla) (by omega) (fun _ => rfl) (fun _ => rfl) (fun q B1 H1 hq d1 Qt kt => ?_) fun B2 H2 uv d2 r2 => ?_))
    · have x1 := x.ext d1
      have hqc := (g.up l hlb).2 q hq
      have hcq : s.changes[q]? = some s.changes[q] := List.getElem?_eq_getElem hqc
      obtain ⟨vs1, cv1, hm1, _, hv1, ⟨ca1, cdx1, hs1, ds1, ls1, rfl, ho1, _, ⟨da, dvs, rfl, dd1, dd2⟩, _⟩⟩ := x1.sa.change hcq
      refine s_testA (s_op (s_tup (al_cons (vl_var rfl) (al_cons (vl_var rfl) al_nil)) (by show 2 ≤ 1000; decide) fun t ht => ?_))
      have d3 := (Ext.refl d1.s).new (o := .tup [.int (p : Int), .int (i : Int)]) ht
      have x3 := x1.ext d3
      have key := kt _ _ d3
      have dd3 := dd2.mono fun a b r => mono_pos _ _ _ _ d3.b r
      refine vl_fld (vl_ixL (j := q) (x3.vM T (vl_var rfl)) (vl_var rfl) (SqL.of (d3.h _ _ hm1)) hv1) (d3.s _ _ (d3.b _ _ ho1)) T.cl_Change T.a_Change_deleted fC_deleted _ ?_
      refine r_inT (a := posI (.line p i)) ⟨t, rfl, SqT.of upd_same⟩ (d3.s _ _ (d3.b _ _ dd1)) (pos_tup dd3) d3.s ⟨_, rfl, ?_⟩
      rw [hcq] at key
      have ed : decide (posI (.line p i) ∈ (s.changes[q].deleted).map posI) = decide (Position.line p i ∈ s.changes[q].deleted) := by
        by_cases c : Position.line p i ∈ s.changes[q].deleted
        · rw [decide_eq_true c, decide_eq_true (List.mem_map.mpr ⟨_, c, rfl⟩)]
        · rw [decide_eq_false c, decide_eq_false (fun z => by
            obtain ⟨y, hy, e⟩ := List.mem_map.mp z
            rw [posI_inj e] at hy
            exact c hy)]
      rw [ed]
      exact key
    · generalize (l.filter fun q => decide (Position.line p i ∈ (((s.changes[q]?).map fun c => c.deleted).getD []))) = found at e0 nl r2
      have x2 := x.ext d2
      have r2' := r2
      obtain ⟨ma, rfl, hma⟩ := r2'
      dsimp only
      refine s_retN ?_
      refine (show tTest _ _ _ _ from s_testA (s_eqNilI (vl_var rfl) (d2.s _ _ hma) fun q hq => ⟨_, rfl, ?_⟩))
      have d3 := d2.tmp (o := .lst []) hq
      have x3 := x.ext d3
      generalize upd H2 q (.lst []) = H3 at d3 x3
      cases hem : (toI found).isEmpty with
      | true =>
        have hem2 : found.isEmpty = true := by
          rw [← hem]
          cases found <;> rfl
        rw [if_pos hem2] at e0
        have o2 := o.eq e0
        refine iteT (s_lst (al_cons vl_c al_nil) (by show 1 ≤ 1000; decide) fun r hr => ?_)
        have d6 := d3.new (o := .lst [V.int 1]) hr
        exact o2.yes _ _ _ d6.toS (x.sa.ext d6) ⟨r, rfl, upd_same⟩
      | false =>
        have hem2 : ¬ found.isEmpty = true := by
          rw [show found.isEmpty = (toI found).isEmpty by cases found <;> rfl, hem]
          exact fun z => nomatch z
        rw [if_neg hem2] at e0
        have o2 := o.eq e0
        refine iteF (s_catRow (B := B2) (ns := ((toI found).length : Int) :: toI found) x3.same (by rw [List.length_cons, toI_len]; omega) (fun Q k => s_row x3.same (vl_var rfl) r2 (by rw [toI_len]; omega) k) (fun H1 e Q k => s_row (x3.same.trans e) (vl_var rfl) r2 (by rw [toI_len]; omega) k) fun B6 H6 v6 d6 r6 => ?_)
        rw [toI_len] at r6
        exact o2.yes _ _ _ (d3.trans d6).toS (x.sa.ext (d3.trans d6)) r6
end
end Lg

-- ==== LgP19 ====
set_option Elab.async false
set_option linter.all false
set_option maxRecDepth 100000
set_option maxHeartbeats 4000000
/-! LgP19: text_order, show, blame. -/
namespace Lg
open PySem PySem.Spec PyProof.Rows L2
open Gf11 (Line Position Change Hunk State insertNat)
section
variable {P : Program} {w : World} {K : PySem.W.Frag} {mg : Str → Option Value} {base : Heap}
theorem s_order {B H : Hp} {a m b : Addr} {s : State} {σ : L2.St} {te ti : TE} {n : Nat} {l : List Nat} {Q : VK} (x : Met K B H a m b s) (h : Vl te σ H (.ref a)) (hi : Vl ti σ H (.int (n : Int))) (hl : s.branches[n]? = some l) (k : Ret B H Q fun B' v => OrdV K P w B' v s.changes l) :
    tMeth (gad K "Session") "order" (spOrder K P w) [] E0 te (tCons ti tNil) σ H Q := s_self x.sa h (by decide +kernel) (al_cons hi al_nil) ⟨B, a, m, b, s, n, l, rfl, x.same, x.sa, x.good, hl, k⟩
theorem s_confl {B H : Hp} {s : State} {σ : L2.St} {te : TE} {v : V} {l : List Nat} {Q : VK} (g : Good s) (hl : l ∈ s.branches) (hB : Same B H) (h : Vl te σ H v) (o : OrdV K P w B v s.changes l) (k : Ret B H Q fun B' v => LstV (PairV K) B' v (Gf11.content s.changes l).2) :
    tMeth (gad K "Order") "conflicts" (spConfl K P w) [] E0 te tNil σ H Q := by
  obtain ⟨oa, ra, lv, rfl, oA, hlv⟩ := o
  have oA' := oA
  obtain ⟨⟨dx, h1⟩, _, _⟩ := oA'
  have go := g.ord hl
  refine s_meth h (hB _ _ h1) fO_conflicts al_nil ⟨B, oa, ra, lv, _, _, _, _, rfl, hB, oA.tmp hB, hlv, fun x hx => go.1.mem_iff.mp hx, go.1.nodup_iff.mpr (vis_nodup (g.up l hl).1), Nat.le_trans (g.ordlen hl) (by decide), ?_⟩
  exact k
theorem v_lines {B H : Hp} {σ : L2.St} {te : TE} {v : V} {cs : List Change} {l : List Nat} (T : Txt K mg) (hB : Same B H) (h : Vl te σ H v) (o : OrdV K P w B v cs l) : ∃ la vs, Vl (tFld K te "lines") σ H (.ref la) ∧ B la = some (.lst vs) ∧ All2 (PosV K B) vs (ordOf cs l) := by
  obtain ⟨oa, ra, lv, rfl, ⟨⟨dx, h1⟩, _, _⟩, ⟨la, vs, rfl, l1, l2⟩⟩ := o
  exact ⟨la, vs, vl_fld h (hB _ _ h1) T.cl_Order T.a_Order_lines fO_lines, l1, l2⟩
theorem s_line {B H : Hp} {a m b : Addr} {s : State} {σ : L2.St} {te tp : TE} {v : V} {br : List Nat} {y : Position} {l : Line} {Q : VK} (x : Met K B H a m b s) (h : Vl te σ H (.ref a)) (hp : Vl tp σ H v) (hv : PosV K B v y) (hy : (y, l) ∈ (Gf11.content s.changes br).1) (k : ∀ u, LineV K B u l → Q u H) :
    tMeth (gad K "Session") "line_at" (spLineAt K) [] E0 te (tCons tp tNil) σ H Q := by
  obtain ⟨p, _, c, hc, i, hi, rfl⟩ := mem_content hy
  exact s_self x.sa h (by decide +kernel) (al_cons hp al_nil) ⟨B, a, m, b, s, v, p, i, c, l, rfl, x.same, x.sa, hv, hc, hi, k⟩
theorem line_len {s : State} (g : Good s) {br : List Nat} {y : Position} {l : Line} (hy : (y, l) ∈ (Gf11.content s.changes br).1) : l.length ≤ 12 := by
  obtain ⟨p, _, c, hc, i, hi, rfl⟩ := mem_content hy
  exact ((g.ok p c hc).lines l (List.mem_of_getElem? hi)).1
theorem content_at {cs : List Change} {br : List Nat} {i : Nat} {y : Position} (h : (ordOf cs br)[i]? = some y) : ∃ l, (Gf11.content cs br).1[i]? = some (y, l) := by
  unfold ordOf at h
  rw [List.getElem?_map] at h
  cases e : (Gf11.content cs br).1[i]? with
  | none =>
    rw [e] at h
    cases h
  | some p =>
    rw [e] at h
    obtain rfl := Option.some.inj h
    exact ⟨p.2, rfl⟩
theorem content_len {cs : List Change} {br : List Nat} : (ordOf cs br).length = (Gf11.content cs br).1.length := List.length_map ..

/-! ### text_order -/
def spText (K : PySem.W.Frag) (P : Program) (w : World) : Sp := fun vs H Q E => ∃ (B : Hp) (a m b : Addr) (s : State) (n : Nat), vs = [.ref a, .int (n : Int)] ∧ Met K B H a m b s ∧ (s.branches[n]? = none → Raised K B H E [-2]) ∧
  (∀ l, s.branches[n]? = some l → (Gf11.content s.changes l).2.isEmpty = false → Raised K B H E [-5, ((Gf11.content s.changes l).2.length : Int)]) ∧ (∀ l, s.branches[n]? = some l → (Gf11.content s.changes l).2.isEmpty = true → Ret B H Q fun B' v => OrdV K P w B' v s.changes l)
theorem ok_text_order (T : Txt K mg) : DOk P w K mg base (L2.CX P w) 6 (mad K "Session" "text_order") p_Session_text_order (spText K P w) := by
  refine ok_of_Session_text_order T (ok_ask_branch T) (ok_order T) (ok_Order_conflicts T) (fun vs H Q E h => ?_) fun vs H Q E h => ?_
  · obtain ⟨B, a, m, b, s, n, rfl, _⟩ := h
    rfl
  obtain ⟨B, a, m, b, s, n, rfl, x, h1, h2, h3⟩ := h
  have g := x.good
  refine s_seq (s_askB x (vl_var rfl) (vl_var rfl) h1 fun l hl => ?_)
  have hlb := List.mem_of_getElem? hl
  dsimp only
  refine s_seq (s_asgN (s_order (P := P) (w := w) x (vl_var rfl) (vl_var rfl) hl fun B1 H1 ov e1 r1 => ?_))
  dsimp only
  refine s_seq (s_asgN (s_cb (s_cons (s_confl g hlb e1.s (vl_var rfl) r1 fun B2 H2 cv e2 r2 => ?_))))
  obtain ⟨ca, cvs, rfl, c1, c2⟩ := r2
  have e12 := e1.trans e2
  refine ⟨ca, cvs, rfl, .inl (SqL.of (e2.s _ _ c1)), ?_⟩
  rw [c2.1]
  dsimp only
  refine s_seq (s_if (tl_test (vl_gt (vl_var rfl) vl_c)) (fun hb => ?_) fun hb => ?_)
  · have hpos := of_decide_eq_true hb
    have hem : (Gf11.content s.changes l).2.isEmpty = false := by
      cases e : (Gf11.content s.changes l).2 with
      | nil =>
        rw [e] at hpos
        exact absurd hpos (by decide)
      | cons _ _ => rfl
    refine s_raiseRef (s_cons (s_lst (al_cons vl_c (al_cons (vl_var rfl) al_nil)) (by show 2 ≤ 1000; decide) fun p hp => ⟨_, rfl, ?_⟩))
    exact raise_step (h2 l hl hem) (e12.new hp) upd_same
  · have hpos := of_decide_eq_false hb
    have hem : (Gf11.content s.changes l).2.isEmpty = true := by
      cases e : (Gf11.content s.changes l).2 with
      | nil => rfl
      | cons y ys =>
        rw [e, List.length_cons] at hpos
        omega
    exact s_ret (vl_var rfl) (h3 l hl hem _ _ _ e12 (r1.mono e2.b))
theorem s_text {B H : Hp} {a m b : Addr} {s : State} {σ : L2.St} {te ti : TE} {n : Nat} {Q : VK} {E : XK} (x : Met K B H a m b s) (h : Vl te σ H (.ref a)) (hi : Vl ti σ H (.int (n : Int))) (h1 : s.branches[n]? = none → Raised K B H E [-2])
    (h2 : ∀ l, s.branches[n]? = some l → (Gf11.content s.changes l).2.isEmpty = false → Raised K B H E [-5, ((Gf11.content s.changes l).2.length : Int)]) (h3 : ∀ l, s.branches[n]? = some l → (Gf11.content s.changes l).2.isEmpty = true → Ret B H Q fun B' v => OrdV K P w B' v s.changes l) :
    tMeth (gad K "Session") "text_order" (spText K P w) [] E te (tCons ti tNil) σ H Q := s_self x.sa h (by decide +kernel) (al_cons hi al_nil) ⟨B, a, m, b, s, n, rfl, x, h1, h2, h3⟩

/-! ### show -/
def spShow (K : PySem.W.Frag) : Sp := fun vs H Q E => ∃ (B : Hp) (a m b : Addr) (s : State) (n : Nat), vs = [.ref a, .int (n : Int)] ∧ Met K B H a m b s ∧ Out K B H a m b s (Gf13.step s (.base (.show_ n))) Q E
theorem ok_show (T : Txt K mg) : DOk P w K mg base (L2.CX P w) 7 (mad K "Session" "show") p_Session_show (spShow K) := by
  refine ok_of_Session_show T (ok_text_order T) (ok_told_line T) (ok_line_at T) (fun vs H Q E h => ?_) fun vs H Q E h => ?_
  · obtain ⟨B, a, m, b, s, n, rfl, _⟩ := h
    rfl
  obtain ⟨B, a, m, b, s, n, rfl, x, o⟩ := h
  have g := x.good
  have e0 : ∀ l, s.branches[n]? = some l → Gf13.step s (.base (.show_ n)) = (s, if (Gf11.content s.changes l).2.isEmpty = false then ⟨-5, Gf11.toInts [(Gf11.content s.changes l).2.length]⟩ else ⟨(((Gf11.content s.changes l).1.length : Nat) : Int), (Gf11.content s.changes l).1.flatMap fun x => Gf11.encodeLine x.2⟩) := fun l hl => by
    show Gf11.withBranch s n _ = _
    unfold Gf11.withBranch
    rw [hl]
  refine s_seq (s_asgN (s_text (P := P) (w := w) x (vl_var rfl) (vl_var rfl) (fun hn => ?_) (fun l hl hem => ?_) fun l hl hem B1 H1 ov e1 r1 => ?_))
  · have e : Gf13.step s (.base (.show_ n)) = (s, Gf11.ok (-2)) := by
      show Gf11.withBranch s n _ = _
      unfold Gf11.withBranch
      rw [hn]
    exact (o.eq e).no rfl
  · have e := e0 l hl
    rw [if_pos hem] at e
    exact (o.eq e).no rfl
  have e := e0 l hl
  rw [if_neg (by rw [hem]; exact fun z => nomatch z)] at e
  have o1 := o.eq e
  have hlb := List.mem_of_getElem? hl
  have hol := g.ordlen hlb
  dsimp only
  have x1 := x.ext e1
  obtain ⟨la, vs, vl, l1, l2⟩ := v_lines (K := K) (te := tVar 2) (σ := [some (V.ref a), some (.int (n : Int)), some ov, none, none]) T e1.s (vl_var rfl) r1
  refine s_seq (s_asgN (s_lst (al_cons (vl_lenL vl (SqL.of (e1.s _ _ l1))) al_nil) (by show 1 ≤ 1000; decide) fun F hF => ?_))
  have bF := e1.s.free hF
  have F0 := e1.h.free hF
  have e2 := e1.tmp (o := .lst [V.int (vs.length : Nat)]) hF
  have hl0 : vs.length = (Gf11.content s.changes l).1.length := by rw [l2.1, content_len]
  dsimp only
  obtain ⟨la2, vs2, vl2, l12, l22⟩ := v_lines (K := K) (te := tVar 2) (σ := [some (V.ref a), some (.int (n : Int)), some ov, some (.ref F), none]) T e2.s (vl_var rfl) r1
  refine s_seq (s_forL (xs := vs2) vl2 (SqL.of (e2.s _ _ l12)) (fun i σ H' => ∃ B3 v4, σ = [some (V.ref a), some (.int (n : Int)), some ov, some (.ref F), v4] ∧ Ext B H B3 H' ∧ Same B1 B3 ∧ B3 F = none ∧
    H' F = some (.lst (((((Gf11.content s.changes l).1.length : Nat) : Int) :: ((Gf11.content s.changes l).1.take i).flatMap fun x => Gf11.encodeLine x.2).map V.int))) ?_ ?_ ?_ ?_)
  · refine ⟨B1, none, rfl, e2, Same.refl _, bF, ?_⟩
    rw [upd_same, hl0]
    rfl
  · rintro i σ H' _ ⟨B3, v4, rfl, e3, s3, _⟩
    exact SqL.of (e3.s _ _ (s3 _ _ l12))
  · rintro i yv σ H' hi ⟨B3, v4, rfl, e3, s3, b3, hF3⟩
    obtain ⟨y, hy, ry⟩ := l22.get hi
    obtain ⟨ln, hln⟩ := content_at hy
    have hmem := List.mem_of_getElem? hln
    have x3 := x.ext e3
    have hll := line_len g hmem
    have hil := (List.getElem?_eq_some_iff.mp hln).1
    refine s_dropN (s_bm ⟨_, rfl, .inl ⟨rfl, _, SqL.of hF3⟩, s_cons (s_callA (s_cons (s_line x3 (vl_var rfl) (vl_var rfl) (mono_pos _ _ _ _ s3 ry) hmem fun u ru => ?_)))⟩)
    refine ⟨B3, u, lineI ln, rfl, e3.s, ru, by rw [show (lineI ln).length = ln.length from List.length_map ..]; omega, fun B4 H4 v4 e4 r4 => ?_⟩
    obtain ⟨na, rfl, hna⟩ := r4
    have hF4 := e4.h _ _ hF3
    have b4 := e4.f F _ hF3 b3
    have tk : ((Gf11.content s.changes l).1.take (i + 1)).flatMap (fun x => Gf11.encodeLine x.2) = ((Gf11.content s.changes l).1.take i).flatMap (fun x => Gf11.encodeLine x.2) ++ Gf11.encodeLine ln := flat_at hln
    have bnd : (((Gf11.content s.changes l).1.take i).flatMap fun x => Gf11.encodeLine x.2).length ≤ 13 * 96 := by
      refine Nat.le_trans (flatLen (k := 13) fun z hz => ?_) (Nat.mul_le_mul_left 13 ?_)
      · have := line_len g (br := l) (y := z.1) (l := z.2) (List.mem_of_mem_take hz)
        rw [enc_len]
        omega
      · rw [List.length_take, ← content_len]
        omega
    refine ⟨F, na, _, _, rfl, rfl, hF4, e4.s _ _ hna, szl ?_, B4, _, rfl, (e3.trans e4).mut F0 b4, s3.trans e4.b, b4, ?_⟩
    · rw [List.length_map, List.length_cons, List.length_map, List.length_cons]
      have : (lineI ln).length = ln.length := List.length_map ..
      omega
    · rw [upd_same, tk]
      have : (lineI ln).length = ln.length := List.length_map ..
      rw [this, ← List.map_append]
      rfl
  · rintro σ H' ⟨B3, v4, rfl, e3, s3, b3, hF3⟩
    have : vs2.length = (Gf11.content s.changes l).1.length := by rw [l22.1, content_len]
    rw [this, List.take_length] at hF3
    refine s_ret (vl_var rfl) (o1.yes _ _ _ (e3.keep F0 b3 hF3).toS (x.sa.ext (e3.keep F0 b3 hF3)) ⟨F, rfl, upd_same⟩)

/-! ### blame -/
def spBlame (K : PySem.W.Frag) : Sp := fun vs H Q E => ∃ (B : Hp) (a m b : Addr) (s : State) (n : Nat), vs = [.ref a, .int (n : Int)] ∧ Met K B H a m b s ∧ Out K B H a m b s (Gf13.step s (.blame n)) Q E
theorem ok_blame (T : Txt K mg) : DOk P w K mg base (L2.CX P w) 7 (mad K "Session" "blame") p_Session_blame (spBlame K) := by
  refine ok_of_Session_blame T (ok_text_order T) (ok_told_row T) (fun vs H Q E h => ?_) fun vs H Q E h => ?_
  · obtain ⟨B, a, m, b, s, n, rfl, _⟩ := h
    rfl
  obtain ⟨B, a, m, b, s, n, rfl, x, o⟩ := h
  have g := x.good
  have e0 : ∀ l, s.branches[n]? = some l → Gf13.step s (.blame n) = (s, if (Gf11.content s.changes l).2.isEmpty = false then ⟨-5, Gf13.toInts [(Gf11.content s.changes l).2.length]⟩ else Gf13.listResult ((Gf11.content s.changes l).1.map fun x => match x.1 with
      | .line p _ => p
      | _ => 0)) := fun l hl => by
    show Gf13.withBranch s n _ = _
    unfold Gf13.withBranch
    rw [hl]
    rfl
  refine s_seq (s_asgN (s_text (P := P) (w := w) x (vl_var rfl) (vl_var rfl) (fun hn => ?_) (fun l hl hem => ?_) fun l hl hem B1 H1 ov e1 r1 => ?_))
  · have e : Gf13.step s (.blame n) = (s, Gf11.ok (-2)) := by
      show Gf13.withBranch s n _ = _
      unfold Gf13.withBranch
      rw [hn]
      rfl
    exact (o.eq e).no rfl
  · have e := e0 l hl
    rw [if_pos hem] at e
    exact (o.eq e).no rfl
  have e := e0 l hl
  rw [if_neg (by rw [hem]; exact fun z => nomatch z)] at e
  have o1 := o.eq e
  have hlb := List.mem_of_getElem? hl
  have hol := g.ordlen hlb
  dsimp only
  obtain ⟨la, vs, vl, l1, l2⟩ := v_lines (K := K) (te := tVar 2) (σ := [some (V.ref a), some (.int (n : Int)), some ov, none, none]) T e1.s (vl_var rfl) r1
  refine s_retN (s_callA (s_cons ?_))
  have isl : ∀ y ∈ ordOf s.changes l, ∃ p i, y = .line p i := fun y hy => by
    obtain ⟨p, _, c, _, i, _, e⟩ := vis_line ((g.ord hlb).1.mem_iff.mp hy)
    exact ⟨p, i, e⟩
  refine s_lcL2 (B := B1) (R := IntV) (xs := vs) (ys := fun i => ((ordOf s.changes l)[i]?).map fun y => h0 y) (fun i => .int (h0 ((ordOf s.changes l).getD i .start))) (fun i => .int (h1 ((ordOf s.changes l).getD i .start))) e1.s mono_int vl (SqL.of (e1.s _ _ l1)) (by rw [l2.1]; omega) (fun _ _ => rfl) (fun i v hi => ?_) (fun i B2 H2 hi e2 => ?_) fun B2 H2 lv e2 r2 => ?_
  · obtain ⟨y, hy, t, rfl, ht⟩ := l2.get hi
    have q : (ordOf s.changes l).getD i .start = y := by rw [List.getD_eq_getElem?_getD, hy]; rfl
    refine ⟨t, rfl, ?_⟩
    rw [q]
    rw [posI_two] at ht
    exact sqT_mono e1.s ht
  · rw [l2.1] at hi
    have hy : (ordOf s.changes l)[i]? = some (ordOf s.changes l)[i] := List.getElem?_eq_getElem hi
    have q : (ordOf s.changes l).getD i .start = (ordOf s.changes l)[i] := by rw [List.getD_eq_getElem?_getD, hy]; rfl
    refine ⟨true, tl_yes, fun _ Q2 k2 => vl_var rfl _ (k2 _ _ _ (Ext.refl e2.s) ⟨_, rfl, ?_⟩), fun z => (nomatch z)⟩
    rw [hy, q]
    rfl
  · rw [l2.1, filterMap_map] at r2
    have e3 : (ordOf s.changes l).map h0 = toI ((Gf11.content s.changes l).1.map fun x => match x.1 with
      | .line p _ => p
      | _ => 0) := by
      unfold ordOf toI
      rw [List.map_map, List.map_map]
      refine List.map_congr_left fun z hz => ?_
      obtain ⟨p, i, e⟩ := isl z.1 (List.mem_map.mpr ⟨z, hz, rfl⟩)
      show h0 z.1 = _
      simp only [Function.comp, e]
      rfl
    rw [e3] at r2
    refine ⟨B2, lv, _, rfl, e2.s, ints_of_lst r2, by rw [toI_len, List.length_map, ← content_len]; omega, fun B4 H4 v4 e4 r4 => ?_⟩
    rw [toI_len] at r4
    exact o1.yes _ _ _ (e1.trans (e2.trans e4)).toS (x.sa.ext (e1.trans (e2.trans e4))) r4
end
end Lg

-- ==== LgP20 ====
set_option Elab.async false
set_option linter.all false
set_option maxRecDepth 100000
set_option maxHeartbeats 4000000
/-! LgP20: shown_lines, change. -/
namespace Lg
open PySem PySem.Spec PyProof.Rows L2
open Gf11 (Line Position Change Hunk State insertNat)
theorem encPos (x : Position) : Gf11.encodePosition x = posI x := by cases x <;> rfl
theorem posI_len (x : Position) : (posI x).length = 2 := by cases x <;> rfl
section
variable {P : Program} {w : World} {K : PySem.W.Frag} {mg : Str → Option Value} {base : Heap}
/-- xs.extend(t), the tuple known -/
theorem s_extT {ta te : TE} {D : Ends} {σ : L2.St} {H : Hp} {F : Addr} {B : Hp} {v : V} {ns ms : List Int} (hB : Same B H) (ha : Vl ta σ H (.ref F)) (hF : H F = some (.lst (ns.map V.int))) (h : Vl te σ H v) (hv : TupV K B v ms) (hz : ns.length + ms.length ≤ 16000000) (q : D.nx σ (upd H F (.lst ((ns ++ ms).map V.int)))) :
    tDrop (tBM K "list" (rExtT K) ta (tCons te tNil)) D σ H := by
  obtain ⟨t, rfl, ht⟩ := hv
  refine s_dropN (s_bm (ha _ ⟨.inl ⟨rfl, _, SqL.of hF⟩, s_cons (h _ ⟨F, t, _, _, rfl, rfl, hF, sqT_mono hB ht, szl (by rw [List.length_map, List.length_map]; exact hz), ?_⟩)⟩))
  rw [← List.map_append]
  exact q
/-- xs.extend(t + u) -/
theorem s_extTT {ta te tf : TE} {D : Ends} {σ : L2.St} {H : Hp} {F : Addr} {B : Hp} {v u : V} {ns ms ks : List Int} (hB : Same B H) (ha : Vl ta σ H (.ref F)) (hF : H F = some (.lst (ns.map V.int))) (h : Vl te σ H v) (hf : Vl tf σ H u) (hv : TupV K B v ms) (hu : TupV K B u ks) (h1 : ms ≠ []) (h2 : ks ≠ []) (hz : ns.length + (ms.length + ks.length) ≤ 16000000)
    (q : ∀ p, H p = none → D.nx σ (upd (upd H p (.tup ((ms ++ ks).map V.int))) F (.lst ((ns ++ (ms ++ ks)).map V.int)))) :
    tDrop (tBM K "list" (rExtT K) ta (tCons (tOp (rCatT K) te tf) tNil)) D σ H := by
  obtain ⟨t, rfl, ht⟩ := hv
  obtain ⟨t2, rfl, ht2⟩ := hu
  refine s_dropN (s_bm (ha _ ⟨.inl ⟨rfl, _, SqL.of hF⟩, s_cons (s_op (h _ (hf _ ⟨t, t2, _, _, rfl, rfl, sqT_mono hB ht, sqT_mono hB ht2, ?_, szl (by rw [List.length_map, List.length_map]; omega), fun z => ?_, fun _ p hp => ?_⟩)))⟩))
  · intro z
    exact h1 (List.map_eq_nil_iff.mp z)
  · exact absurd (List.map_eq_nil_iff.mp z) h2
  · refine ⟨F, p, _, _, rfl, rfl, Same.new hp _ _ hF, SqT.of upd_same, szl (by rw [List.length_append, List.length_map, List.length_map, List.length_map]; exact hz), ?_⟩
    rw [← List.map_append, ← List.map_append]
    exact q p hp
/-- xs.append(n) -/
theorem s_appI {ta te : TE} {D : Ends} {σ : L2.St} {H : Hp} {F : Addr} {ns : List Int} {n : Int} (ha : Vl ta σ H (.ref F)) (hF : H F = some (.lst (ns.map V.int))) (h : Vl te σ H (.int n)) (hz : ns.length < 16000000) (q : D.nx σ (upd H F (.lst ((ns ++ [n]).map V.int)))) :
    tDrop (tBM K "list" rAppend ta (tCons te tNil)) D σ H := s_app ha hF h (by rw [List.length_map]; exact hz) (by
  rw [List.map_append] at q
  exact q)

/-! ### shown_lines -/
def spShown (K : PySem.W.Frag) : Sp := fun vs H Q E => ∃ (B : Hp) (a m b : Addr) (s : State) (n : Nat), vs = [.ref a, .int (n : Int)] ∧ Met K B H a m b s ∧ Out K B H a m b s (Gf13.step s (.base (.lines n))) Q E
theorem confl_len {cs : List Change} {l : List Nat} (h : (ordOf cs l).length ≤ 96) : (Gf11.content cs l).2.length ≤ 96 * 96 := by
  rw [confl_eq]
  refine Nat.le_trans (List.length_filter_le _ _) ?_
  rw [← pairsTo_all]
  exact Nat.le_trans (pairsTo_len _ _) (Nat.mul_le_mul h h)
theorem ok_shown_lines (T : Txt K mg) : DOk P w K mg base (L2.CX P w) 6 (mad K "Session" "shown_lines") p_Session_shown_lines (spShown K) := by
  refine ok_of_Session_shown_lines T (ok_ask_branch T) (ok_order T) (ok_Order_conflicts T) (fun vs H Q E h => ?_) fun vs H Q E h => ?_
  · obtain ⟨B, a, m, b, s, n, rfl, _⟩ := h
    rfl
  obtain ⟨B, a, m, b, s, n, rfl, x, o⟩ := h
  have g := x.good
  refine s_seq (s_askB x (vl_var rfl) (vl_var rfl) (fun hn => ?_) fun l hl => ?_)
  · have e : Gf13.step s (.base (.lines n)) = (s, Gf11.ok (-2)) := by
      show Gf11.withBranch s n _ = _
      unfold Gf11.withBranch
      rw [hn]
    exact (o.eq e).no rfl
  have e : Gf13.step s (.base (.lines n)) = (s, ⟨(((Gf11.content s.changes l).1.length : Nat) : Int), ((Gf11.content s.changes l).1.flatMap fun x => Gf11.encodePosition x.1) ++ ((((Gf11.content s.changes l).2.length : Nat) : Int) :: (Gf11.content s.changes l).2.flatMap fun x => Gf11.encodePosition x.1 ++ Gf11.encodePosition x.2)⟩) := by
    show Gf11.withBranch s n _ = _
    unfold Gf11.withBranch
    rw [hl]
  have o1 := o.eq e
  have hlb := List.mem_of_getElem? hl
  have hol := g.ordlen hlb
  have hcl := confl_len hol
  dsimp only
  refine s_seq (s_asgN (s_order (P := P) (w := w) x (vl_var rfl) (vl_var rfl) hl fun B1 H1 ov e1 r1 => ?_))
  dsimp only
  obtain ⟨la, vs, vl, l1, l2⟩ := v_lines (K := K) (te := tVar 2) (σ := [some (V.ref a), some (.int (n : Int)), some ov, none, none, none, none, none]) T e1.s (vl_var rfl) r1
  refine s_seq (s_asgN (s_lst (al_cons (vl_lenL vl (SqL.of (e1.s _ _ l1))) al_nil) (by show 1 ≤ 1000; decide) fun F hF => ?_))
  have bF := e1.s.free hF
  have F0 := e1.h.free hF
  have e2 := e1.tmp (o := .lst [V.int (vs.length : Nat)]) hF
  have hl0 : vs.length = (Gf11.content s.changes l).1.length := by rw [l2.1, content_len]
  dsimp only
  obtain ⟨la2, vs2, vl2, l12, l22⟩ := v_lines (K := K) (te := tVar 2) (σ := [some (V.ref a), some (.int (n : Int)), some ov, some (.ref F), none, none, none, none]) T e2.s (vl_var rfl) r1
  refine s_seq (s_forL (xs := vs2) vl2 (SqL.of (e2.s _ _ l12)) (fun i σ H' => ∃ v4, σ = [some (V.ref a), some (.int (n : Int)), some ov, some (.ref F), v4, none, none, none] ∧ Ext B H B1 H' ∧
    H' F = some (.lst (((((Gf11.content s.changes l).1.length : Nat) : Int) :: ((Gf11.content s.changes l).1.take i).flatMap fun x => Gf11.encodePosition x.1).map V.int))) ?_ ?_ ?_ ?_)
  · refine ⟨none, rfl, e2, ?_⟩
    rw [upd_same, hl0]
    rfl
  · rintro i σ H' _ ⟨v4, rfl, e3, _⟩
    exact SqL.of (e3.s _ _ l12)
  · rintro i yv σ H' hi ⟨v4, rfl, e3, hF3⟩
    obtain ⟨y, hy, ry⟩ := l22.get hi
    obtain ⟨ln, hln⟩ := content_at hy
    have hil := (List.getElem?_eq_some_iff.mp hln).1
    have tk : ((Gf11.content s.changes l).1.take (i + 1)).flatMap (fun x => Gf11.encodePosition x.1) = ((Gf11.content s.changes l).1.take i).flatMap (fun x => Gf11.encodePosition x.1) ++ posI y := (flat_at hln).trans (by rw [encPos])
    have bnd : (((Gf11.content s.changes l).1.take i).flatMap fun x => Gf11.encodePosition x.1).length ≤ 2 * 96 := by
      refine Nat.le_trans (flatLen (k := 2) fun z hz => ?_) (Nat.mul_le_mul_left 2 ?_)
      · rw [encPos, posI_len]
        exact Nat.le_refl _
      · rw [List.length_take, ← content_len]
        omega
    refine s_extT e3.s (vl_var rfl) hF3 (vl_var rfl) ry (by rw [List.length_cons, posI_len]; omega) ⟨_, rfl, e3.mut F0 bF, ?_⟩
    rw [upd_same, tk]
    rfl
  · rintro σ H' ⟨v4, rfl, e3, hF3⟩
    have : vs2.length = (Gf11.content s.changes l).1.length := by rw [l22.1, content_len]
    rw [this, List.take_length] at hF3
    dsimp only
    refine s_seq (s_asgN (s_confl g hlb e3.s (vl_var rfl) r1 fun B4 H4 cv e4 r4 => ?_))
    obtain ⟨ca, cvs, rfl, c1, c2⟩ := r4
    have hF4 := e4.h _ _ hF3
    have b4 := e4.f F _ hF3 bF
    have e5 := e3.trans e4
    have bnd : (((Gf11.content s.changes l).1).flatMap fun x => Gf11.encodePosition x.1).length ≤ 2 * 96 := by
      refine Nat.le_trans (flatLen (k := 2) fun z hz => ?_) (Nat.mul_le_mul_left 2 ?_)
      · rw [encPos, posI_len]
        exact Nat.le_refl _
      · rw [← content_len]
        omega
    dsimp only
    refine s_seq (s_appI (vl_var rfl) hF4 (vl_lenL (vl_var rfl) (SqL.of (e4.s _ _ c1))) (by rw [List.length_cons]; omega) ?_)
    rw [c2.1]
    have e6 := e5.mut (o := .lst (((((((Gf11.content s.changes l).1.length : Nat) : Int) :: ((Gf11.content s.changes l).1).flatMap fun x => Gf11.encodePosition x.1) ++ [(((Gf11.content s.changes l).2.length : Nat) : Int)])).map V.int)) F0 b4
    have hF6 : (upd H4 F (.lst (((((((Gf11.content s.changes l).1.length : Nat) : Int) :: ((Gf11.content s.changes l).1).flatMap fun x => Gf11.encodePosition x.1) ++ [(((Gf11.content s.changes l).2.length : Nat) : Int)])).map V.int))) F = some _ := upd_same
    generalize (upd H4 F (.lst (((((((Gf11.content s.changes l).1.length : Nat) : Int) :: ((Gf11.content s.changes l).1).flatMap fun x => Gf11.encodePosition x.1) ++ [(((Gf11.content s.changes l).2.length : Nat) : Int)])).map V.int))) = H6 at e6 hF6
    dsimp only
    refine s_seq (s_forL (xs := cvs) (vl_var rfl) (SqL.of (e6.s _ _ c1)) (fun i σ H' => ∃ v6 v7, σ = [some (V.ref a), some (.int (n : Int)), some ov, some (.ref F), v4, some (.ref ca), v6, v7] ∧ Ext B H B4 H' ∧
      H' F = some (.lst (((((((Gf11.content s.changes l).1.length : Nat) : Int) :: ((Gf11.content s.changes l).1).flatMap fun x => Gf11.encodePosition x.1) ++ [(((Gf11.content s.changes l).2.length : Nat) : Int)]) ++ ((Gf11.content s.changes l).2.take i).flatMap fun x => Gf11.encodePosition x.1 ++ Gf11.encodePosition x.2).map V.int))) ?_ ?_ ?_ ?_)
    · refine ⟨none, none, rfl, e6, ?_⟩
      rw [hF6, List.take_zero, List.flatMap_nil, List.append_nil]
    · rintro i σ H' _ ⟨v6, v7, rfl, e7, _⟩
      exact SqL.of (e7.s _ _ c1)
    · rintro i yv σ H' hi ⟨v6, v7, rfl, e7, hF7⟩
      obtain ⟨y, hy, t, u1, u2, rfl, ht, q1, q2⟩ := c2.get hi
      have hil := (List.getElem?_eq_some_iff.mp hy).1
      refine g_two (sqT_mono e7.s ht) ?_
      have tk : ((Gf11.content s.changes l).2.take (i + 1)).flatMap (fun x => Gf11.encodePosition x.1 ++ Gf11.encodePosition x.2) = ((Gf11.content s.changes l).2.take i).flatMap (fun x => Gf11.encodePosition x.1 ++ Gf11.encodePosition x.2) ++ (posI y.1 ++ posI y.2) := (flat_at hy).trans (by rw [encPos, encPos])
      have bnd2 : (((Gf11.content s.changes l).2.take i).flatMap fun x => Gf11.encodePosition x.1 ++ Gf11.encodePosition x.2).length ≤ 4 * (96 * 96) := by
        refine Nat.le_trans (flatLen (k := 4) fun z hz => ?_) (Nat.mul_le_mul_left 4 ?_)
        · rw [encPos, encPos, List.length_append, posI_len, posI_len]
          exact Nat.le_refl _
        · rw [List.length_take]
          omega
      refine s_extTT (B := B4) e7.s (vl_var rfl) hF7 (vl_var rfl) (vl_var rfl) q1 q2 (fun z => by have := posI_len y.1; rw [z] at this; cases this) (fun z => by have := posI_len y.2; rw [z] at this; cases this) ?_ fun p hp => ⟨_, _, rfl, (e7.tmp hp).mut F0 b4, ?_⟩
      · rw [List.length_append, List.length_append, List.length_cons, List.length_singleton, posI_len, posI_len]
        omega
      · rw [upd_same, tk]
        simp only [List.append_assoc]
    · rintro σ H' ⟨v6, v7, rfl, e7, hF7⟩
      rw [c2.1, List.take_length] at hF7
      refine s_ret (vl_var rfl) (o1.yes _ _ _ (e7.keep F0 b4 hF7).toS (x.sa.ext (e7.keep F0 b4 hF7)) ⟨F, rfl, ?_⟩)
      rw [upd_same]
      simp only [List.append_assoc, List.cons_append, List.nil_append]
end
end Lg

-- ==== LgP21 ====
set_option Elab.async false
set_option linter.all false
set_option maxRecDepth 100000
set_option maxHeartbeats 4000000
/-! LgP21: change. -/
namespace Lg
open PySem PySem.Spec PyProof.Rows L2
open Gf11 (Line Position Change Hunk State insertNat)
def encH (h : Hunk) : List Int := Gf11.encodePosition h.before ++ (Gf11.encodePosition h.after ++ (((h.lines.length : Nat) : Int) :: h.lines.flatMap Gf11.encodeLine))
theorem lines_of_hunk {c : Change} {h : Hunk} (hh : h ∈ c.hunks) : h.lines.length ≤ (Gf11.insertedLines c).length ∧ ∀ l ∈ h.lines, l ∈ Gf11.insertedLines c := by
  obtain ⟨i, hi⟩ := List.mem_iff_getElem?.mp hh
  constructor
  · have h1 := linesOf_succ hi
    have h2 := linesOf_le c.hunks (i + 1)
    rw [h1, List.length_append] at h2
    rw [← linesOf_eq]
    omega
  · intro l hl
    exact List.mem_flatMap.mpr ⟨h, hh, hl⟩
theorem encLines_len {ls : List Line} (h : ∀ l ∈ ls, l.length ≤ 12) : (ls.flatMap Gf11.encodeLine).length ≤ 13 * ls.length := flatLen (k := 13) fun z hz => by
  rw [enc_len]
  have := h z hz
  omega
section
variable {P : Program} {w : World} {K : PySem.W.Frag} {mg : Str → Option Value} {base : Heap}
/-- xs.extend(told_line(l)) -/
theorem s_extLine {ta te : TE} {D : Ends} {σ : L2.St} {H B : Hp} {F : Addr} {v : V} {ns : List Int} {l : Line} (hB : Same B H) (ha : Vl ta σ H (.ref F)) (hF : H F = some (.lst (ns.map V.int))) (h : Vl te σ H v) (hv : LineV K B v l) (hz : ns.length + l.length ≤ 100000)
    (q : ∀ B2 H2, Ext B H B2 H2 → D.nx σ (upd H2 F (.lst ((ns ++ Gf11.encodeLine l).map V.int)))) : tDrop (tBM K "list" rExtend ta (tCons (tCall (spLine K) [] E0 (tCons te tNil)) tNil)) D σ H := by
  have ll : (lineI l).length = l.length := List.length_map ..
  refine s_dropN (s_bm (ha _ ⟨.inl ⟨rfl, _, SqL.of hF⟩, s_cons (s_call (al_cons h al_nil) ⟨B, v, lineI l, rfl, hB, hv, by omega, fun B2 H2 v2 e2 r2 => ?_⟩)⟩))
  obtain ⟨na, rfl, hna⟩ := r2
  have hF2 := e2.h _ _ hF
  refine ⟨F, na, _, _, rfl, rfl, hF2, e2.s _ _ hna, szl (by rw [List.length_map, List.length_map, List.length_cons]; omega), ?_⟩
  rw [← List.map_append, ll]
  exact q B2 H2 e2
def spShowChange (K : PySem.W.Frag) : Sp := fun vs H Q E => ∃ (B : Hp) (a m b : Addr) (s : State) (p : Nat), vs = [.ref a, .int (p : Int)] ∧ Met K B H a m b s ∧ Out K B H a m b s (Gf13.step s (.base (.change p))) Q E
theorem ok_change (T : Txt K mg) : DOk P w K mg base (L2.CX P w) 5 (mad K "Session" "change") p_Session_change (spShowChange K) := by
  refine ok_of_Session_change T (ok_ask_change T) (ok_told_line T) (ok_told_row T) (ok_Change_dependencies T) (fun vs H Q E h => ?_) fun vs H Q E h => ?_
  · obtain ⟨B, a, m, b, s, p, rfl, _⟩ := h
    rfl
  obtain ⟨B, a, m, b, s, p, rfl, x, o⟩ := h
  have g := x.good
  have hB := x.same
  refine s_seq (s_askC x (vl_var rfl) (vl_var rfl) (fun hn => ?_) fun c hc => ?_)
  · have e : Gf13.step s (.base (.change p)) = (s, Gf11.ok (-3)) := by
      show (s, match s.changes[p]? with
        | none => _
        | some c => _) = _
      rw [hn]
    exact (o.eq e).no rfl
  have e : Gf13.step s (.base (.change p)) = (s, ⟨((c.hunks.length : Nat) : Int), (c.hunks.flatMap encH) ++ (((c.deleted.length : Nat) : Int) :: (c.deleted.flatMap Gf11.encodePosition ++ Gf11.toInts ((Gf11.dependencies c).length :: Gf11.dependencies c)))⟩) := by
    show (s, match s.changes[p]? with
      | none => _
      | some c => _) = _
    rw [hc]
    rfl
  have o1 := o.eq e
  have ok := g.ok p c hc
  have sm := ok.small
  have hl12 : ∀ l ∈ Gf11.insertedLines c, l.length ≤ 12 := fun l hl => (ok.lines l hl).1
  obtain ⟨vs, cv, hm, _, hv, rc⟩ := x.sa.change hc
  have rc' := rc
  obtain ⟨ca, cdx, hs, ds, ls, rfl, ho, ⟨ha, hvs, rfl, h1, h2⟩, ⟨da, dvs, rfl, d1, d2⟩, _⟩ := rc'
  dsimp only
  refine s_seq (s_set (vl_ixL (j := p) (x.vM T (vl_var rfl)) (vl_var rfl) (SqL.of hm) hv) ?_)
  dsimp only
  refine s_seq (s_asgN (s_lst (al_cons (vl_lenL (vl_fld (vl_var rfl) (hB _ _ ho) T.cl_Change T.a_Change_hunks fC_hunks) (SqL.of (hB _ _ h1))) al_nil) (by show 1 ≤ 1000; decide) fun F hF => ?_))
  have bF := hB.free hF
  have e2 := (Ext.refl hB).tmp (o := .lst [V.int (hvs.length : Nat)]) hF
  have ehb : ∀ h ∈ c.hunks, (encH h).length ≤ 200 := fun h hh => by
    obtain ⟨q1, q2⟩ := lines_of_hunk hh
    have := encLines_len (ls := h.lines) fun l hl => hl12 l (q2 l hl)
    have := sm.lines
    unfold encH
    rw [encPos, encPos, List.length_append, List.length_append, List.length_cons, posI_len, posI_len]
    omega
  dsimp only
  refine s_seq (s_forL (xs := hvs) (vl_fld (vl_var rfl) (e2.s _ _ ho) T.cl_Change T.a_Change_hunks fC_hunks) (SqL.of (e2.s _ _ h1)) (fun i σ H' => ∃ B1 v5 v6 v7 v8, σ = [some (V.ref a), some (.int (p : Int)), some (.ref ca), some (.ref F), none, v5, v6, v7, v8] ∧ Ext B H B1 H' ∧ B1 F = none ∧
    H' F = some (.lst ((((c.hunks.length : Nat) : Int) :: (c.hunks.take i).flatMap encH).map V.int))) ?_ ?_ ?_ ?_)
  · refine ⟨B, none, none, none, none, rfl, e2, bF, ?_⟩
    rw [upd_same, h2.1]
    rfl
  · rintro i σ H' _ ⟨B1, v5, v6, v7, v8, rfl, e3, _⟩
    exact SqL.of (e3.s _ _ (e3.b _ _ h1))
  · rintro i hv' σ H' hi ⟨B1, v5, v6, v7, v8, rfl, e3, b3, hF3⟩
    obtain ⟨h, hh, ⟨ta, tx, ty, tz, rfl, t1, px, ⟨ya, yvs, rfl, y1, y2⟩, pz⟩⟩ := h2.get hi
    have hmem := List.mem_of_getElem? hh
    obtain ⟨q1, q2⟩ := lines_of_hunk hmem
    have hhl : h.lines.length ≤ 8 := Nat.le_trans q1 sm.lines
    have hil := (List.getElem?_eq_some_iff.mp hh).1
    refine g_three (sqT_mono (e3.b.trans e3.s) t1) ?_
    have tk : (c.hunks.take (i + 1)).flatMap encH = (c.hunks.take i).flatMap encH ++ encH h := flat_at hh
    have bnd : ((c.hunks.take i).flatMap encH).length ≤ 200 * 200 := by
      refine Nat.le_trans (flatLen (k := 200) fun z hz => ehb z (List.mem_of_mem_take hz)) (Nat.mul_le_mul_left 200 ?_)
      rw [List.length_take]
      have := sm.hunks
      omega
    generalize (c.hunks.take i).flatMap encH = acc at hF3 tk bnd
    refine s_seq (s_extTT (B := B1) e3.s (vl_var rfl) hF3 (vl_var rfl) (vl_var rfl) (mono_pos _ _ _ _ e3.b px) (mono_pos _ _ _ _ e3.b pz) (fun z => by have := posI_len h.before; rw [z] at this; cases this) (fun z => by have := posI_len h.after; rw [z] at this; cases this) (by rw [List.length_cons, posI_len, posI_len]; omega) fun q hq => ?_)
    have e4 := (e3.tmp (o := .tup ((posI h.before ++ posI h.after).map V.int)) hq).mut (o := .lst ((((c.hunks.length : Nat) : Int) :: acc ++ (posI h.before ++ posI h.after)).map V.int)) hF b3
    have hF4 : (upd (upd H' q (.tup ((posI h.before ++ posI h.after).map V.int))) F (.lst ((((c.hunks.length : Nat) : Int) :: acc ++ (posI h.before ++ posI h.after)).map V.int))) F = some _ := upd_same
    generalize (upd (upd H' q (.tup ((posI h.before ++ posI h.after).map V.int))) F (.lst ((((c.hunks.length : Nat) : Int) :: acc ++ (posI h.before ++ posI h.after)).map V.int))) = H4 at e4 hF4
    dsimp only
    have y14 := e4.s _ _ (e4.b _ _ y1)
    refine s_seq (s_appI (vl_var rfl) hF4 (vl_lenL (vl_var rfl) (SqL.of y14)) (by rw [List.length_append, List.length_append, List.length_cons, posI_len, posI_len]; omega) ?_)
    have e5 := e4.mut (o := .lst (((((c.hunks.length : Nat) : Int) :: acc ++ (posI h.before ++ posI h.after)) ++ [((yvs.length : Nat) : Int)]).map V.int)) hF b3
    have hF5 : (upd H4 F (.lst (((((c.hunks.length : Nat) : Int) :: acc ++ (posI h.before ++ posI h.after)) ++ [((yvs.length : Nat) : Int)]).map V.int))) F = some _ := upd_same
    generalize (upd H4 F (.lst (((((c.hunks.length : Nat) : Int) :: acc ++ (posI h.before ++ posI h.after)) ++ [((yvs.length : Nat) : Int)]).map V.int))) = H5 at e5 hF5
    dsimp only
    refine s_forL (xs := yvs) (vl_var rfl) (SqL.of (e5.s _ _ (e5.b _ _ y1))) (fun j σ H' => ∃ B6 v8, σ = [some (V.ref a), some (.int (p : Int)), some (.ref ca), some (.ref F), none, some tx, some (.ref ya), some tz, v8] ∧ Ext B H B6 H' ∧ B6 F = none ∧
      H' F = some (.lst ((((((c.hunks.length : Nat) : Int) :: acc ++ (posI h.before ++ posI h.after)) ++ [((yvs.length : Nat) : Int)]) ++ (h.lines.take j).flatMap Gf11.encodeLine).map V.int))) ?_ ?_ ?_ ?_
    · refine ⟨B1, v8, rfl, e5, b3, ?_⟩
      rw [hF5, List.take_zero, List.flatMap_nil, List.append_nil]
    · rintro j σ H' _ ⟨B6, v8, rfl, e6, _⟩
      exact SqL.of (e6.s _ _ (e6.b _ _ y1))
    · rintro j lv σ H' hj ⟨B6, v8, rfl, e6, b6, hF6⟩
      obtain ⟨ln, hln, rln⟩ := y2.get hj
      have hlm := List.mem_of_getElem? hln
      have l12 := hl12 ln (q2 ln hlm)
      have tk2 : (h.lines.take (j + 1)).flatMap Gf11.encodeLine = (h.lines.take j).flatMap Gf11.encodeLine ++ Gf11.encodeLine ln := flat_at hln
      have bnd2 : ((h.lines.take j).flatMap Gf11.encodeLine).length ≤ 13 * 8 := by
        refine Nat.le_trans (encLines_len fun l hl => hl12 l (q2 l (List.mem_of_mem_take hl))) (Nat.mul_le_mul_left 13 ?_)
        rw [List.length_take]
        omega
      refine s_extLine e6.s (vl_var rfl) hF6 (vl_var rfl) (mono_line _ _ _ _ e6.b rln) ?_ fun B7 H7 e7 => ⟨B7, _, rfl, (e6.trans e7).mut hF (e7.f F _ hF6 b6), e7.f F _ hF6 b6, ?_⟩
      · rw [List.length_append, List.length_append, List.length_append, List.length_append, List.length_cons, List.length_singleton, posI_len, posI_len]
        omega
      · rw [upd_same, tk2]
        simp only [List.append_assoc]
    · rintro σ H' ⟨B6, v8, rfl, e6, b6, hF6⟩
      rw [y2.1, List.take_length] at hF6
      refine ⟨B6, _, _, _, v8, rfl, e6, b6, ?_⟩
      rw [hF6, tk]
      unfold encH
      rw [encPos, encPos]
      simp only [List.append_assoc, List.cons_append, List.nil_append]
  · rintro σ H' ⟨B1, v5, v6, v7, v8, rfl, e3, b3, hF3⟩
    rw [h2.1, List.take_length] at hF3
    have bnd : (c.hunks.flatMap encH).length ≤ 200 * 200 := Nat.le_trans (flatLen (k := 200) ehb) (Nat.mul_le_mul_left 200 sm.hunks)
    generalize c.hunks.flatMap encH = acc at hF3 bnd o1
    have ho3 := e3.b _ _ ho
    dsimp only
    refine s_seq (s_appI (vl_var rfl) hF3 (vl_lenL (vl_fld (vl_var rfl) (e3.s _ _ ho3) T.cl_Change T.a_Change_deleted fC_deleted) (SqL.of (e3.s _ _ (e3.b _ _ d1)))) (by rw [List.length_cons]; omega) ?_)
    have e5 := e3.mut (o := .lst (((((c.hunks.length : Nat) : Int) :: acc) ++ [((dvs.length : Nat) : Int)]).map V.int)) hF b3
    have hF5 : (upd H' F (.lst (((((c.hunks.length : Nat) : Int) :: acc) ++ [((dvs.length : Nat) : Int)]).map V.int))) F = some _ := upd_same
    generalize (upd H' F (.lst (((((c.hunks.length : Nat) : Int) :: acc) ++ [((dvs.length : Nat) : Int)]).map V.int))) = H5 at e5 hF5
    dsimp only
    refine s_seq (s_forL (xs := dvs) (vl_fld (vl_var rfl) (e5.s _ _ ho3) T.cl_Change T.a_Change_deleted fC_deleted) (SqL.of (e5.s _ _ (e5.b _ _ d1))) (fun j σ H' => ∃ v4, σ = [some (V.ref a), some (.int (p : Int)), some (.ref ca), some (.ref F), v4, v5, v6, v7, v8] ∧ Ext B H B1 H' ∧
      H' F = some (.lst ((((((c.hunks.length : Nat) : Int) :: acc) ++ [((dvs.length : Nat) : Int)]) ++ (c.deleted.take j).flatMap Gf11.encodePosition).map V.int))) ?_ ?_ ?_ ?_)
    · refine ⟨none, rfl, e5, ?_⟩
      rw [hF5, List.take_zero, List.flatMap_nil, List.append_nil]
    · rintro j σ H' _ ⟨v4, rfl, e6, _⟩
      exact SqL.of (e6.s _ _ (e6.b _ _ d1))
    · rintro j dv σ H' hj ⟨v4, rfl, e6, hF6⟩
      obtain ⟨y, hy, ry⟩ := d2.get hj
      have tk2 : (c.deleted.take (j + 1)).flatMap Gf11.encodePosition = (c.deleted.take j).flatMap Gf11.encodePosition ++ posI y := (flat_at hy).trans (by rw [encPos])
      have bnd2 : ((c.deleted.take j).flatMap Gf11.encodePosition).length ≤ 2 * 200 := by
        refine Nat.le_trans (flatLen (k := 2) fun z hz => ?_) (Nat.mul_le_mul_left 2 ?_)
        · rw [encPos, posI_len]
          exact Nat.le_refl _
        · rw [List.length_take]
          have := sm.gone
          omega
      refine s_extT e6.s (vl_var rfl) hF6 (vl_var rfl) (mono_pos _ _ _ _ e6.b ry) ?_ ⟨_, rfl, e6.mut hF b3, ?_⟩
      · rw [List.length_append, List.length_append, List.length_cons, List.length_singleton, posI_len]
        omega
      · rw [upd_same, tk2]
        simp only [List.append_assoc]
    · rintro σ H' ⟨v4, rfl, e6, hF6⟩
      rw [d2.1, List.take_length] at hF6
      have bnd2 : (c.deleted.flatMap Gf11.encodePosition).length ≤ 2 * 200 := by
        refine Nat.le_trans (flatLen (k := 2) fun z hz => ?_) (Nat.mul_le_mul_left 2 sm.gone)
        rw [encPos, posI_len]
        exact Nat.le_refl _
      have dl := deps_len g hc
      have x6 := x.ext e6
      dsimp only
      refine s_retN (s_op (vl_var rfl _ (s_callA (s_cons ?_))))
      refine s_meth (vl_var rfl) (e6.s _ _ (e6.b _ _ ho)) fC_dependencies al_nil ⟨B1, .ref ca, p, c, rfl, e6.s, mono_change _ _ _ _ e6.b rc, sm, fun q hq => ?_, fun B7 H7 dv e7 r7 => ⟨B7, dv, _, rfl, e7.s, r7, by rw [toI_len]; omega, fun B8 H8 rv e8 r8 => ?_⟩⟩
      · have h1 := g.deps p q (by unfold depsOf Gf13.dependenciesOf; rw [hc]; exact hq)
        have h2 := g.nc
        have h3 := (List.getElem?_eq_some_iff.mp hc).1
        omega
      · obtain ⟨ra, rfl, hra⟩ := r8
        have hF8 := e8.h _ _ (e7.h _ _ hF6)
        have e68 := e6.trans (e7.trans e8)
        refine ⟨F, ra, _, _, rfl, rfl, hF8, e8.s _ _ hra, szl ?_, fun q hq => ?_⟩
        · have bnd3 : ((p, c).snd.deleted.flatMap Gf11.encodePosition).length ≤ 2 * 200 := bnd2
          rw [List.length_map, List.length_map, List.length_append, List.length_append, List.length_cons, List.length_singleton, List.length_cons, toI_len]
          omega
        · refine o1.yes _ _ _ (e68.new hq).toS (x.sa.ext (e68.new hq)) ⟨q, rfl, ?_⟩
          rw [upd_same, ← List.map_append]
          rw [toI_len]
          simp only [List.append_assoc, List.cons_append, List.nil_append]
          rfl
end
end Lg

-- ==== LgQ1 ====
set_option Elab.async false
set_option linter.all false
set_option maxRecDepth 100000
set_option maxHeartbeats 4000000
/-! LgQ1: what the difference's change is; every operation keeps what holds of a session. -/
namespace Lg
open Gf11 (Line Position Change Hunk State insertNat)

/-! ### edits -/
def insertsOf : List Gf11.Edit → List Line
  | [] => []
  | .insert l :: es => l :: insertsOf es
  | _ :: es => insertsOf es
theorem flat_headAdd (l : Line) : ∀ gs : List (List Line), gs ≠ [] → (headAdd l gs).flatten = l :: gs.flatten
  | [], h => absurd rfl h
  | g :: gs, _ => rfl
theorem insOf_ne : ∀ es : List Gf11.Edit, insOf es ≠ [] := fun es h => by
  have := insOf_len es
  rw [h] at this
  cases this
theorem ins_flat : ∀ es : List Gf11.Edit, (insOf es).flatten = insertsOf es
  | [] => rfl
  | .insert l :: es => by
    show (headAdd l (insOf es)).flatten = l :: insertsOf es
    rw [flat_headAdd _ _ (insOf_ne es), ins_flat es]
  | .keep :: es => ins_flat es
  | .delete :: es => ins_flat es
theorem linesOf_hunks : ∀ (b : Position) (old : List Position) (gs : List (List Line)), linesOf (hunksOf b old gs) = gs.flatten
  | _, _, [] => rfl
  | b, old, g :: gs => by
    show linesOf ((if g.isEmpty = true then [] else [⟨b, old.headD .end_, g⟩]) ++ hunksOf (old.headD .end_) (old.drop 1) gs) = g ++ gs.flatten
    have e : linesOf ((if g.isEmpty = true then [] else [⟨b, old.headD .end_, g⟩]) ++ hunksOf (old.headD .end_) (old.drop 1) gs) = linesOf (if g.isEmpty = true then [] else [⟨b, old.headD .end_, g⟩]) ++ linesOf (hunksOf (old.headD .end_) (old.drop 1) gs) := List.flatMap_append
    rw [e, linesOf_hunks]
    congr 1
    cases g with
    | nil => rfl
    | cons x l => exact List.append_nil _
theorem df_sub : ∀ (n : Nat) (l r : List Line), l.length + r.length ≤ n → (insertsOf (df l r)).Sublist r
  | _, [], [], _ => .slnil
  | _, [], y :: r, h => by
    have : ∀ r : List Line, insertsOf (r.map Gf11.Edit.insert) = r := fun r => by
      induction r with
      | nil => rfl
      | cons y r ih =>
        show y :: insertsOf (r.map Gf11.Edit.insert) = _
        rw [ih]
    rw [df_nil, this]
    exact List.Sublist.refl _
  | n + 1, x :: l, [], h => by
    rw [df_cons_nil]
    exact df_sub n l [] (by simp only [List.length_cons, List.length_nil] at h ⊢; omega)
  | n + 1, x :: l, y :: r, h => by
    simp only [List.length_cons] at h
    by_cases e : x = y
    · rw [df_keep l r e]
      exact .cons _ (df_sub n l r (by omega))
    · by_cases c : Gf11.lcsLength (x :: l) r ≤ Gf11.lcsLength l (y :: r)
      · rw [df_delete l r e c]
        exact df_sub n l (y :: r) (by simp only [List.length_cons]; omega)
      · rw [df_insert l r e c]
        exact (df_sub n (x :: l) r (by simp only [List.length_cons]; omega)).cons_cons y
  | 0, x :: l, _, h => by simp at h
def Keeps (es : List Gf11.Edit) : Prop := ∀ e ∈ es, e = .keep
theorem df_keeps : ∀ (n : Nat) (l r : List Line), l.length + r.length ≤ n → Keeps (df l r) → l = r
  | _, [], [], _, _ => rfl
  | _, [], y :: r, _, h => by
    have := h (.insert y) (by rw [df_nil]; exact List.mem_cons_self)
    cases this
  | n + 1, x :: l, [], _, h => by
    have := h .delete (by rw [df_cons_nil]; exact List.mem_cons_self)
    cases this
  | n + 1, x :: l, y :: r, hn, h => by
    simp only [List.length_cons] at hn
    by_cases e : x = y
    · rw [df_keep l r e] at h
      rw [e, df_keeps n l r (by omega) fun z hz => h z (List.mem_cons_of_mem _ hz)]
    · by_cases c : Gf11.lcsLength (x :: l) r ≤ Gf11.lcsLength l (y :: r)
      · rw [df_delete l r e c] at h
        have := h .delete List.mem_cons_self
        cases this
      · rw [df_insert l r e c] at h
        have := h (.insert y) List.mem_cons_self
        cases this
  | 0, x :: l, _, h, _ => by simp at h
theorem df_same : ∀ l : List Line, Keeps (df l l)
  | [] => fun e he => (nomatch he)
  | x :: l => by
    rw [df_keep l l rfl]
    intro e he
    rcases List.mem_cons.mp he with h | h
    · exact h
    · exact df_same l e h
theorem keeps_of : ∀ (es : List Gf11.Edit) (k : Nat), delOf k es = [] → insertsOf es = [] → Keeps es
  | [], _, _, _ => fun e he => (nomatch he)
  | .keep :: es, k, h1, h2 => fun e he => by
    rcases List.mem_cons.mp he with h | h
    · exact h
    · exact keeps_of es (k + 1) h1 h2 e h
  | .delete :: es, k, h1, h2 => by cases h1
  | .insert l :: es, k, h1, h2 => by cases h2
theorem of_keeps : ∀ (es : List Gf11.Edit) (k : Nat), Keeps es → delOf k es = [] ∧ insertsOf es = []
  | [], _, _ => ⟨rfl, rfl⟩
  | .keep :: es, k, h => of_keeps es (k + 1) fun e he => h e (List.mem_cons_of_mem _ he)
  | .delete :: es, k, h => by
    have := h .delete List.mem_cons_self
    cases this
  | .insert l :: es, k, h => by
    have := h (.insert l) List.mem_cons_self
    cases this
theorem hunksOf_len : ∀ (b : Position) (old : List Position) (gs : List (List Line)), (hunksOf b old gs).length ≤ gs.length
  | _, _, [] => Nat.le_refl _
  | b, old, g :: gs => by
    show ((if g.isEmpty = true then [] else [Hunk.mk b (old.headD .end_) g]) ++ hunksOf (old.headD .end_) (old.drop 1) gs).length ≤ gs.length + 1
    rw [List.length_append]
    have := hunksOf_len (old.headD .end_) (old.drop 1) gs
    cases g with
    | nil => exact Nat.le_succ_of_le (by show 0 + _ ≤ _; omega)
    | cons x l => show 1 + _ ≤ _; omega
theorem hunksOf_ne : ∀ (b : Position) (old : List Position) (gs : List (List Line)), ∀ h ∈ hunksOf b old gs, h.lines ≠ []
  | _, _, [], h, hh => nomatch hh
  | b, old, g :: gs, h, hh => by
    rcases List.mem_append.mp (show h ∈ (if g.isEmpty = true then [] else [⟨b, old.headD .end_, g⟩]) ++ hunksOf (old.headD .end_) (old.drop 1) gs from hh) with hh | hh
    · cases g with
      | nil => cases hh
      | cons x l =>
        rw [List.mem_singleton.mp hh]
        exact fun z => nomatch z
    · exact hunksOf_ne _ _ gs h hh
theorem mem_hunksOf : ∀ (gs : List (List Line)) (b : Position) (old : List Position), gs.length ≤ old.length + 1 → ∀ h ∈ hunksOf b old gs, ∃ i, (endsOf b old)[i]? = some h.before ∧ (endsOf b old)[i + 1]? = some h.after
  | [], _, _, _, h, hh => nomatch hh
  | g :: gs, b, old, hl, h, hh => by
    rcases List.mem_append.mp (show h ∈ (if g.isEmpty = true then [] else [⟨b, old.headD .end_, g⟩]) ++ hunksOf (old.headD .end_) (old.drop 1) gs from hh) with hh | hh
    · cases g with
      | nil => cases hh
      | cons x l =>
        rw [List.mem_singleton.mp hh]
        refine ⟨0, rfl, ?_⟩
        cases old <;> rfl
    · cases old with
      | nil =>
        have : gs = [] := by
          cases gs with
          | nil => rfl
          | cons a c => simp at hl
        subst this
        cases hh
      | cons p ps =>
        obtain ⟨i, h1, h2⟩ := mem_hunksOf gs p ps (by simp only [List.length_cons] at hl; omega) h hh
        exact ⟨i + 1, h1, h2⟩
theorem steps_l {l r : List Line} : steps (df l r) = l.length := steps_df _ _ _ (Nat.le_refl _)
theorem madeOf_ins (places : List Position) (old new : List Line) : Gf11.insertedLines (madeOf places old new) = insertsOf (df old new) := by
  rw [← ins_flat, ← linesOf_hunks .start places]
  rfl
theorem madeOf_sub (places : List Position) (old new : List Line) : (Gf11.insertedLines (madeOf places old new)).Sublist new := by
  rw [madeOf_ins]
  exact df_sub _ _ _ (Nat.le_refl _)
theorem delOf_len : ∀ (es : List Gf11.Edit) (k : Nat), (delOf k es).length ≤ steps es
  | [], _ => Nat.le_refl _
  | .insert _ :: es, k => delOf_len es k
  | .keep :: es, k => Nat.le_succ_of_le (delOf_len es (k + 1))
  | .delete :: es, k => Nat.succ_le_succ (delOf_len es (k + 1))
theorem pick_len (ps : List Position) (ns : List Nat) : (pick ps ns).length ≤ ns.length := List.length_filterMap_le _ _
theorem madeOf_none {places : List Position} {old new : List Line} (hp : places.length = old.length) : ((madeOf places old new).hunks.isEmpty = true ∧ (madeOf places old new).deleted.isEmpty = true) ↔ old = new := by
  constructor
  · rintro ⟨h1, h2⟩
    have h1' : hunksOf .start places (insOf (df old new)) = [] := List.isEmpty_iff.mp h1
    have h2' : pick places (delOf 0 (df old new)) = [] := List.isEmpty_iff.mp h2
    have i1 : insertsOf (df old new) = [] := by
      rw [← ins_flat, ← linesOf_hunks .start places, h1']
      rfl
    have d1 : delOf 0 (df old new) = [] := by
      cases e : delOf 0 (df old new) with
      | nil => rfl
      | cons d ds =>
        have := delOf_lt (df old new) 0 d (by rw [e]; exact List.mem_cons_self)
        rw [steps_l] at this
        rw [e] at h2'
        unfold pick at h2'
        rw [List.filterMap_cons, List.getElem?_eq_getElem (show d < places.length by omega)] at h2'
        cases h2'
    exact df_keeps _ _ _ (Nat.le_refl _) (keeps_of _ _ d1 i1)
  · rintro rfl
    obtain ⟨h1, h2⟩ := of_keeps _ 0 (df_same old)
    constructor
    · show (hunksOf .start places (insOf (df old old))).isEmpty = true
      have hl : linesOf (hunksOf .start places (insOf (df old old))) = [] := by rw [linesOf_hunks, ins_flat, h2]
      cases e : hunksOf .start places (insOf (df old old)) with
      | nil => rfl
      | cons h hs =>
        rw [e] at hl
        have := hunksOf_ne .start places (insOf (df old old)) h (by rw [e]; exact List.mem_cons_self)
        exact absurd (List.append_eq_nil_iff.mp (show h.lines ++ linesOf hs = [] from hl)).1 this
    · show (pick places (delOf 0 (df old old))).isEmpty = true
      rw [h1]
      rfl
end Lg

-- ==== LgQ2 ====
set_option Elab.async false
set_option linter.all false
set_option maxRecDepth 100000
set_option maxHeartbeats 4000000
/-! LgQ2: every operation keeps what holds of a session. -/
namespace Lg
open Gf11 (Line Position Change Hunk State insertNat)
def CallOk : Gf13.Call → Prop
  | .base (.write _ t) => ∀ l ∈ t, ∀ x ∈ l, x ≤ 1000000
  | .base (.delete _ rs) => rs.length ≤ 200
  | _ => True
theorem good_br {s : State} (g : Good s) {bs : List (List Nat)} (h1 : bs.length ≤ 5) (h2 : ∀ b ∈ bs, Up b ∧ ∀ x ∈ b, x < s.changes.length) : Good { s with branches := bs } := ⟨h1, g.nc, h2, g.ok, g.rank⟩
theorem good_set {s : State} (g : Good s) {n : Nat} {l : List Nat} (h : Up l ∧ ∀ x ∈ l, x < s.changes.length) : Good (withB s n l) := by
  refine good_br g (by rw [List.length_set]; exact g.nb) fun b hb => ?_
  rcases List.mem_or_eq_of_mem_set hb with hb | rfl
  · exact g.up b hb
  · exact h
theorem good_record {s : State} (g : Good s) {n : Nat} {l : List Nat} {c : Change} (hl : Up l ∧ ∀ x ∈ l, x < s.changes.length) (h12 : s.changes.length < 12) (hc : ChangeOk s.changes s.changes.length c) (hr : ∃ r, Ranks (s.changes ++ [c]) r) : Good (recorded s n l c) := by
  have len : (s.changes ++ [c]).length = s.changes.length + 1 := by rw [List.length_append]; rfl
  refine ⟨by show (s.branches.set n _).length ≤ 5; rw [List.length_set]; exact g.nb, by show (s.changes ++ [c]).length ≤ 12; omega, fun b hb => ?_, fun k d hd => ?_, hr⟩
  · show Up b ∧ ∀ x ∈ b, x < (s.changes ++ [c]).length
    rw [len]
    rcases List.mem_or_eq_of_mem_set (show b ∈ s.branches.set n (l ++ [s.changes.length]) from hb) with hb | rfl
    · exact ⟨(g.up b hb).1, fun x hx => Nat.lt_succ_of_lt ((g.up b hb).2 x hx)⟩
    · refine ⟨up_snoc hl.1 hl.2, fun x hx => ?_⟩
      rcases List.mem_append.mp hx with hx | hx
      · exact Nat.lt_succ_of_lt (hl.2 x hx)
      · rw [List.mem_singleton.mp hx]
        exact Nat.lt_succ_self _
  · have hd : (s.changes ++ [c])[k]? = some d := hd
    show ChangeOk (s.changes ++ [c]) k d
    by_cases e : k < s.changes.length
    · rw [List.getElem?_append_left e] at hd
      exact (g.ok k d hd).more
    · have h1 := (List.getElem?_eq_some_iff.mp hd).1
      have e2 : k = s.changes.length := by omega
      subst e2
      rw [List.getElem?_append_right (Nat.le_refl _)] at hd
      simp at hd
      rw [← hd]
      exact hc.more
theorem vis_ok {s : State} {n : Nat} {b : List Nat} (hb : ∀ x ∈ b, x < n) {x : Position} (h : x ∈ vis s.changes b) : PosOk s.changes n x ∧ IsLine x := by
  obtain ⟨p, hp, c, hc, i, hi, rfl⟩ := vis_line h
  exact ⟨⟨hb p hp, c, hc, hi⟩, trivial⟩
theorem mem_ends {b x : Position} {old : List Position} (h : x ∈ endsOf b old) : x = b ∨ x ∈ old ∨ x = .end_ := by
  rcases List.mem_cons.mp h with h | h
  · exact .inl h
  · rcases List.mem_append.mp h with h | h
    · exact .inr (.inl h)
    · exact .inr (.inr (List.mem_singleton.mp h))
theorem pick_mem {ps : List Position} {ns : List Nat} {x : Position} (h : x ∈ pick ps ns) : x ∈ ps := by
  obtain ⟨n, _, e⟩ := List.mem_filterMap.mp h
  exact List.mem_of_getElem? e
/-- the change of a write: within bounds, its ranks -/
theorem write_change {s : State} (g : Good s) {l : List Nat} {t : List Line} (hl : l ∈ s.branches) (hc : (Gf11.content s.changes l).2 = []) (ht : t.length ≤ 8) (hlen : ∀ x ∈ t, x.length ≤ 12) (hx : ∀ x ∈ t, ∀ y ∈ x, y ≤ 1000000) :
    ChangeOk s.changes s.changes.length (Gf11.changeBetween (Gf11.content s.changes l).1 t) ∧ ∃ r, Ranks (s.changes ++ [Gf11.changeBetween (Gf11.content s.changes l).1 t]) r := by
  have e : Gf11.changeBetween (Gf11.content s.changes l).1 t = madeOf (ordOf s.changes l) ((Gf11.content s.changes l).1.map (·.2)) t := change_between _ _
  rw [e]
  generalize hold : (Gf11.content s.changes l).1.map (·.2) = old
  have lo : (ordOf s.changes l).length = old.length := by
    rw [← hold]
    unfold ordOf
    rw [List.length_map, List.length_map]
  have ol := g.ordlen hl
  have inO : ∀ x ∈ ordOf s.changes l, x ∈ vis s.changes l := fun x hx => (g.ord hl).1.mem_iff.mp hx
  have vok : ∀ x ∈ ordOf s.changes l, PosOk s.changes s.changes.length x ∧ IsLine x := fun x hx => vis_ok (g.up l hl).2 (inO x hx)
  have gl : (insOf (df old t)).length ≤ (ordOf s.changes l).length + 1 := by
    rw [insOf_len, steps_l]
    omega
  have sub := madeOf_sub (ordOf s.changes l) old t
  have endOk : ∀ x ∈ endsOf .start (ordOf s.changes l), PosOk s.changes s.changes.length x := fun x hx => by
    rcases mem_ends hx with rfl | hx | rfl
    · trivial
    · exact (vok x hx).1
    · trivial
  have hOk : ChangeOk s.changes s.changes.length (madeOf (ordOf s.changes l) old t) := by
    refine ⟨Nat.le_trans sub.length_le ht, ?_, ?_, fun x hx2 => ⟨hlen x (sub.mem hx2), hx x (sub.mem hx2)⟩, fun h hh => ?_, fun h hh => ?_, fun d hd => vok d (pick_mem hd)⟩
    · have := hunksOf_len .start (ordOf s.changes l) (insOf (df old t))
      show (hunksOf .start (ordOf s.changes l) (insOf (df old t))).length ≤ 200
      omega
    · have h1 := pick_len (ordOf s.changes l) (delOf 0 (df old t))
      have h2 := delOf_len (df old t) 0
      rw [steps_l] at h2
      show (pick (ordOf s.changes l) (delOf 0 (df old t))).length ≤ 200
      omega
    · obtain ⟨i, h1, _⟩ := mem_hunksOf _ _ _ gl h hh
      exact endOk _ (List.mem_of_getElem? h1)
    · obtain ⟨i, _, h2⟩ := mem_hunksOf _ _ _ gl h hh
      exact endOk _ (List.mem_of_getElem? h2)
  refine ⟨hOk, ?_⟩
  obtain ⟨r, k⟩ := g.rank
  have e2 : 0 < r .end_ := Nat.lt_of_le_of_lt (Nat.zero_le _) (k.top 0 0)
  have lpos : ∀ x ∈ ordOf s.changes l, 0 < r x ∧ r x < r .end_ := fun x hx => by
    obtain ⟨p, _, c, _, i, _, rfl⟩ := vis_line (inO x hx)
    exact ⟨k.pos p i, k.top p i⟩
  have rise : (endsOf .start (ordOf s.changes l)).Pairwise fun x y => r x < r y := by
    unfold endsOf
    rw [List.pairwise_cons, List.pairwise_append]
    refine ⟨fun y hy => ?_, ?_, by simp, fun x hx y hy => ?_⟩
    · rw [k.start]
      rcases List.mem_append.mp hy with hy | hy
      · exact (lpos y hy).1
      · rw [List.mem_singleton.mp hy]
        exact e2
    · exact List.Pairwise.imp_of_mem (fun {x y} hx hy h => k.befR l (inO x hx) h) (g.rises hl hc)
    · rw [List.mem_singleton.mp hy]
      exact (lpos x hx).2
  refine ⟨_, ranks_new k g.ok hOk (fun h hh => ?_) fun h hh => ?_⟩
  · obtain ⟨i, h1, h2⟩ := mem_hunksOf _ _ _ gl h hh
    obtain ⟨i1, e1⟩ := List.getElem?_eq_some_iff.mp h1
    obtain ⟨i2, e2⟩ := List.getElem?_eq_some_iff.mp h2
    have := List.pairwise_iff_getElem.mp rise i (i + 1) i1 i2 (Nat.lt_succ_self i)
    rw [e1, e2] at this
    exact this
  · intro z
    obtain ⟨i, h1, h2⟩ := mem_hunksOf _ _ _ gl h hh
    obtain ⟨i1, e1⟩ := List.getElem?_eq_some_iff.mp h1
    obtain ⟨i2, e2⟩ := List.getElem?_eq_some_iff.mp h2
    have q := List.pairwise_iff_getElem.mp rise i (i + 1) i1 i2 (Nat.lt_succ_self i)
    rw [e1, e2, z] at q
    have hm := List.mem_of_getElem? h2
    rcases mem_ends hm with h3 | h3 | h3
    · rw [h3, k.start] at q
      omega
    · have := (lpos _ h3).2
      omega
    · rw [h3] at q
      omega
theorem delete_change {s : State} (g : Good s) {l : List Nat} {rs : List Position} (hl : l ∈ s.branches) (hr : rs.length ≤ 200) (hv : ∀ x ∈ rs, x ∈ vis s.changes l) : ChangeOk s.changes s.changes.length ⟨[], rs⟩ ∧ ∃ r, Ranks (s.changes ++ [⟨[], rs⟩]) r := by
  have hOk : ChangeOk s.changes s.changes.length ⟨[], rs⟩ := ⟨Nat.zero_le _, Nat.zero_le _, hr, fun x hx => (nomatch hx), fun x hx => (nomatch hx), fun x hx => (nomatch hx), fun d hd => vis_ok (g.up l hl).2 (hv d hd)⟩
  obtain ⟨r, k⟩ := g.rank
  exact ⟨hOk, _, ranks_new k g.ok hOk (fun h hh => (nomatch hh)) fun h hh => (nomatch hh)⟩
theorem any_vis {cs : List Change} {l : List Nat} {r : Position} : (Gf11.visibleLines cs l).any (fun x => x.1 == r) = decide (r ∈ vis cs l) := by
  rw [Bool.eq_iff_iff, List.any_eq_true, decide_eq_true_iff]
  unfold vis
  rw [List.mem_map]
  exact ⟨fun ⟨x, hx, e⟩ => ⟨x, hx, eq_of_beq e⟩, fun ⟨x, hx, e⟩ => ⟨x, hx, beq_iff_eq.mpr e⟩⟩
theorem good_step {s : State} (g : Good s) {c : Gf13.Call} (hc : CallOk c) : Good (Gf13.step s c).1 := by
  have wb11 : ∀ (n : Nat) (f : List Nat → State × Gf11.Result), (∀ l, s.branches[n]? = some l → Good (f l).1) → Good (Gf11.withBranch s n f).1 := fun n f h => by
    unfold Gf11.withBranch
    cases e : s.branches[n]? with
    | none => exact g
    | some l => exact h l e
  have wb13 : ∀ (n : Nat) (f : List Nat → State × Gf13.Result), (∀ l, s.branches[n]? = some l → Good (f l).1) → Good (Gf13.withBranch s n f).1 := fun n f h => by
    unfold Gf13.withBranch
    cases e : s.branches[n]? with
    | none => exact g
    | some l => exact h l e
  have upl : ∀ {n l}, s.branches[n]? = some l → Up l ∧ ∀ x ∈ l, x < s.changes.length := fun h => g.up _ (List.mem_of_getElem? h)
  have recd : ∀ (n : Nat) (l : List Nat) (c : Change), s.branches[n]? = some l → (s.changes.length < 12 → ChangeOk s.changes s.changes.length c ∧ ∃ r, Ranks (s.changes ++ [c]) r) → Good (Gf11.record s n l c).1 := fun n l c hl h => by
    unfold Gf11.record
    split
    · exact g
    · rename_i q
      have h12 : s.changes.length < 12 := Nat.lt_of_not_le q
      obtain ⟨h1, h2⟩ := h h12
      exact good_record g (upl hl) h12 h1 h2
  cases c with
  | base c =>
    cases c with
    | branch n =>
      refine wb11 n _ fun l hl => ?_
      split
      · exact g
      · rename_i q
        refine good_br g ?_ fun b hb => ?_
        · rw [List.length_append]
          have : s.branches.length < 5 := Nat.lt_of_not_le q
          exact this
        · rcases List.mem_append.mp hb with hb | hb
          · exact g.up b hb
          · rw [List.mem_singleton.mp hb]
            exact upl hl
    | write n t =>
      refine wb11 n _ fun l hl => ?_
      dsimp only
      split
      · exact g
      · rename_i q
        split
        · exact g
        · rename_i q2
          split
          · exact g
          · have hcf : (Gf11.content s.changes l).2 = [] := by
              cases e : (Gf11.content s.changes l).2 with
              | nil => rfl
              | cons a b =>
                rw [e] at q2
                exact absurd rfl q2
            refine recd n l _ hl fun _ => write_change g (List.mem_of_getElem? hl) hcf ?_ (fun x hx => ?_) hc
            · exact Nat.le_of_not_lt fun z => q (.inl z)
            · exact Nat.le_of_not_lt fun z => q (.inr (List.any_eq_true.mpr ⟨x, hx, decide_eq_true z⟩))
    | delete n rs =>
      refine wb11 n _ fun l hl => ?_
      split
      · exact g
      · rename_i q
        refine recd n l _ hl fun _ => delete_change g (List.mem_of_getElem? hl) hc fun x hx => ?_
        refine of_decide_eq_true ?_
        rw [← any_vis]
        cases e : (Gf11.visibleLines s.changes l).any (fun y => y.1 == x) with
        | true => rfl
        | false => exact absurd (Or.inr (Or.inr (List.any_eq_true.mpr ⟨x, hx, by rw [e]; rfl⟩))) q
    | apply n p =>
      refine wb11 n _ fun l hl => ?_
      dsimp only
      split
      · exact g
      · rename_i q
        split
        · exact g
        · split
          · exact g
          · refine good_set g ⟨up_ins (upl hl).1, fun x hx => ?_⟩
            rcases mem_ins.mp hx with rfl | hx
            · omega
            · exact (upl hl).2 x hx
    | merge n p =>
      refine wb11 n _ fun l hl => wb11 p _ fun r hr => ?_
      refine good_set g ⟨up_fold (upl hl).1, fun x hx => ?_⟩
      rcases mem_fold.mp hx with hx | hx
      · exact (upl hl).2 x hx
      · exact (upl hr).2 x hx
    | revert n p =>
      refine wb11 n _ fun l hl => ?_
      dsimp only
      split
      · exact g
      · split
        · exact g
        · exact good_set g ⟨(upl hl).1.filter _, fun x hx => (upl hl).2 x (List.mem_filter.mp hx).1⟩
    | show_ n => exact wb11 n _ fun l hl => g
    | lines n => exact wb11 n _ fun l hl => g
    | change p => exact g
  | requirements p => exact g
  | applyWithDependencies n p =>
    refine wb13 n _ fun l hl => ?_
    dsimp only
    split
    · exact g
    · rename_i q
      split
      · exact g
      · refine good_set g ⟨up_fold (upl hl).1, fun x hx => ?_⟩
        rcases mem_fold.mp hx with hx | hx
        · exact (upl hl).2 x hx
        · have := all_le g.deps (List.mem_filter.mp hx).1
          omega
  | revertWithDependents n p =>
    refine wb13 n _ fun l hl => ?_
    dsimp only
    split
    · exact g
    · exact good_set g ⟨(upl hl).1.filter _, fun x hx => (upl hl).2 x (List.mem_filter.mp hx).1⟩
  | explain n p i => exact wb13 n _ fun l hl => g
  | blame n => exact wb13 n _ fun l hl => g
end Lg

-- ==== LgP22 ====
set_option Elab.async false
set_option linter.all false
set_option maxRecDepth 100000
set_option maxHeartbeats 4000000
/-! LgP22: write, delete. -/
namespace Lg
open PySem PySem.Spec PyProof.Rows L2
open Gf11 (Line Position Change Hunk State insertNat)
section
variable {P : Program} {w : World} {K : PySem.W.Frag} {mg : Str → Option Value} {base : Heap}
theorem SA.back {B H B1 H1 : Hp} {a m b : Addr} {s s' : State} {Q : VK} {R : Hp → V → Prop} (x1 : SA K B1 H1 a m b s) (e : Ext B H B1 H1) (k : RetS K B H a m b s' Q R) : RetS K B1 H1 a m b s' Q R := fun B' H' v y hs r => k B' H' v (x1.ex2 e.toS y) hs r
/-! lists of pairs of positions against the empty one -/
def pairD (x : Position × Position) : PyData := .tuple [tupD (posI x.1), tupD (posI x.2)]
theorem tupD_lay (ns : List Int) : (tupD ns).canLay0 = true := by
  simp only [tupD, PyData.canLay0]
  exact intsD_lay ns
theorem tupD_depth (ns : List Int) : (tupD ns).depth ≤ 2 := by
  have h := intsD_depth ns
  simp only [tupD, PyData.depth]
  omega
theorem pairs_lay : ∀ l : List (Position × Position), PyData.canLayAll0 (l.map pairD) = true
  | [] => by simp [PyData.canLayAll0]
  | x :: l => by
    have h : (pairD x).canLay0 = true := by simp [pairD, PyData.canLay0, PyData.canLayAll0, tupD_lay]
    simp [PyData.canLayAll0, h, pairs_lay l]
theorem pairs_depth : ∀ l : List (Position × Position), PyData.depthAll (l.map pairD) ≤ 10
  | [] => by simp [PyData.depthAll]
  | x :: l => by
    have h1 := pairs_depth l
    have h2 := tupD_depth (posI x.1)
    have h3 := tupD_depth (posI x.2)
    simp only [List.map_cons, PyData.depthAll, pairD, PyData.depth]
    omega
theorem pairs_shaped (l : List (Position × Position)) : SeqAt.shaped (.list (l.map pairD)) = true := by
  have h := pairs_depth l
  show (PyData.canLay0 (.list (l.map pairD)) && decide (PyData.depth (.list (l.map pairD)) ≤ 64)) = true
  rw [Bool.and_eq_true]
  refine ⟨by simp only [PyData.canLay0]; exact pairs_lay l, decide_eq_true ?_⟩
  simp only [PyData.depth]
  omega
theorem dp_pairs {B H : Hp} (s : Same B H) : ∀ {vs : List V} {l : List (Position × Position)}, All2 (PairV K B) vs l → DpAll K H vs (l.map pairD)
  | [], [], _ => .nil
  | [], _ :: _, h => by cases h.1
  | _ :: _, [], h => by cases h.1
  | v :: vs, x :: l, h => by
    have h0 : PairV K B v x := h.2 0 v x rfl rfl
    obtain ⟨t, u, y, rfl, ht, h1, h2⟩ := h0
    exact .cons (.tup (sqT_mono s ht) (.cons (dp_tup h1 s) (.cons (dp_tup h2 s) .nil))) (dp_pairs s ⟨Nat.succ.inj h.1, fun i a b x y => h.2 (i + 1) a b x y⟩)
theorem r_eqNilP {B H : Hp} {σ : L2.St} {v : V} {l : List (Position × Position)} {Q : VK} (s : Same B H) (h : LstV (PairV K) B v l) (k : ∀ q, H q = none → Q (.bl l.isEmpty) (upd H q (.lst []))) : tLst tNil σ H fun y H' => rEqD K v y H' Q := by
  obtain ⟨a, vs, rfl, ha, al⟩ := h
  refine s_lst al_nil (by show 0 ≤ 1000; decide) fun q hq => ?_
  refine ⟨.list (l.map pairD), .list ([].map pairD), .lst (SqL.of (Same.new hq _ _ (s _ _ ha))) (dp_pairs (s.trans (Same.new hq)) al), .lst (SqL.of upd_same) .nil, pairs_shaped l, pairs_shaped [], ?_⟩
  have e : PyData.eqv (.list (l.map pairD)) (.list (([] : List (Position × Position)).map pairD)) = l.isEmpty := by
    cases l <;> simp [PyData.eqv, PyData.eqvAll]
  rw [e]
  exact k q hq

/-! ### write -/
def spWrite (K : PySem.W.Frag) : Sp := fun vs H Q E => ∃ (B : Hp) (a m b : Addr) (s : State) (n : Nat) (v : V) (t : List Line), vs = [.ref a, .int (n : Int), v] ∧ Met K B H a m b s ∧ IntsV B v (t.flatMap Gf11.encodeLine) ∧ (t.flatMap Gf11.encodeLine).length ≤ 1000 ∧ Out K B H a m b s (Gf13.step s (.base (.write n t))) Q E
theorem lineMap_inj : ∀ {l m : List Line}, l.map lineI = m.map lineI → l = m
  | [], [], _ => rfl
  | [], _ :: _, h => nomatch h
  | _ :: _, [], h => nomatch h
  | x :: l, y :: m, h => by
    obtain ⟨h1, h2⟩ := List.cons.inj (show lineI x :: l.map lineI = lineI y :: m.map lineI from h)
    rw [lineI_inj h1, lineMap_inj h2]
theorem ok_write (T : Txt K mg) : DOk P w K mg base (L2.CX P w) 6 (mad K "Session" "write") p_Session_write (spWrite K) := by
  refine ok_of_Session_write T (ok_ask_branch T) (ok_lines_in T) (ok_demand T) (ok_order T) (ok_Order_conflicts T) (ok_line_at T) (ok_ask_room T) (ok_record T) (ok_written_change T) (fun vs H Q E h => ?_) fun vs H Q E h => ?_
  · obtain ⟨B, a, m, b, s, n, v, t, rfl, _⟩ := h
    rfl
  obtain ⟨B, a, m, b, s, n, v, t, rfl, x, hv, hz, o⟩ := h
  have g := x.good
  refine s_seq (s_askB x (vl_var rfl) (vl_var rfl) (fun hn => ?_) fun l hl => ?_)
  · have e : Gf13.step s (.base (.write n t)) = (s, Gf11.ok (-2)) := by
      show Gf11.withBranch s n _ = _
      unfold Gf11.withBranch
      rw [hn]
    exact (o.eq e).no rfl
  have e0 : Gf13.step s (.base (.write n t)) = if Gf11.MAX_LINES < t.length ∨ t.any (fun x => decide (Gf11.MAX_LINE < x.length)) = true then (s, Gf11.ok (-1)) else
    if (Gf11.content s.changes l).2.isEmpty = false then (s, Gf11.ok (-5)) else
    if (Gf11.changeBetween (Gf11.content s.changes l).1 t).hunks.isEmpty = true ∧ (Gf11.changeBetween (Gf11.content s.changes l).1 t).deleted.isEmpty = true then (s, Gf11.ok (-6)) else Gf11.record s n l (Gf11.changeBetween (Gf11.content s.changes l).1 t) := by
    show Gf11.withBranch s n _ = _
    unfold Gf11.withBranch
    rw [hl]
  have hlb := List.mem_of_getElem? hl
  have hol := g.ordlen hlb
  dsimp only
  refine s_seq (s_asgN (s_call (al_cons (vl_var rfl) al_nil) ⟨B, v, t, rfl, x.same, hv, hz, fun B1 H1 lv e1 r1 => ?_⟩))
  have x1 := x.ext e1
  have r1' := r1
  obtain ⟨ta, tvs, rfl, t1, t2⟩ := r1'
  have tl := enc_le t
  dsimp only
  refine s_seq (st_demA (B := B1) (c := decide (t.length ≤ 8) && t.all fun x => decide (x.length ≤ 12)) (n := -1) (fun Q2 k2 => ?_) (fun hc => ?_) fun hc B2 H2 e2 => ?_)
  · refine vl_le (vl_lenL (vl_var rfl) (SqL.of (x1.same _ _ t1))) vl_c _ ⟨_, rfl, ?_⟩
    rw [t2.1]
    have ed : decide (((t.length : Nat) : Int) ≤ 8) = decide (t.length ≤ 8) := by
      by_cases c : t.length ≤ 8
      · rw [decide_eq_true c, decide_eq_true (by omega)]
      · rw [decide_eq_false c, decide_eq_false (by omega)]
    rw [ed]
    cases hc : decide (t.length ≤ 8) with
    | false =>
      refine iteF ?_
      have := k2 _ _ (Ext.refl x1.same)
      rw [hc] at this
      exact this
    | true =>
      refine iteT (s_cb (s_cons ?_))
      refine s_lcL (B := B1) (R := BlV) (xs := tvs) (ys := fun i => (t[i]?).map fun l => decide (l.length ≤ 12)) x1.same mono_bl (vl_var rfl) (SqL.of (x1.same _ _ t1)) (by rw [t2.1]; omega) (fun _ => rfl)
        (fun i v B3 H3 hi e3 => ⟨true, tl_yes, fun _ Q3 k3 => ?_, fun z => (nomatch z)⟩) fun B3 H3 bv e3 r3 => ?_
      · obtain ⟨ln, hln, la, rfl, hla⟩ := t2.get hi
        refine vl_le (vl_lenT (vl_var rfl) (sqT_mono (e3.b.trans e3.s) hla)) vl_c _ (k3 _ _ _ (Ext.refl e3.s) ⟨_, rfl, ?_⟩)
        rw [hln, List.length_map]
        have : (lineI ln).length = ln.length := List.length_map ..
        rw [this]
        show some (decide (ln.length ≤ 12)) = some (decide (((ln.length : Nat) : Int) ≤ 12))
        congr 1
        by_cases c : ln.length ≤ 12
        · rw [decide_eq_true c, decide_eq_true (by omega)]
        · rw [decide_eq_false c, decide_eq_false (by omega)]
      · rw [t2.1, filterMap_map] at r3
        obtain ⟨ba, bvs, rfl, b1, b2⟩ := r3
        rw [all2_bls b2] at b1
        refine ⟨ba, _, rfl, SqL.of (e3.s _ _ b1), ?_⟩
        have := k2 _ _ e3
        rw [hc, Bool.true_and] at this
        rw [List.all_map]
        exact this
  · refine Raised.ext ?_ e1
    refine (o.eq (e0.trans (if_pos ?_))).no rfl
    rw [Bool.and_eq_false_iff] at hc
    rcases hc with hc | hc
    · exact .inl (Nat.lt_of_not_le (of_decide_eq_false hc))
    · refine .inr (List.any_eq_true.mpr ?_)
      rw [List.all_eq_false] at hc
      obtain ⟨y, hy, h⟩ := hc
      exact ⟨y, hy, decide_eq_true (Nat.lt_of_not_le fun z => h (decide_eq_true z))⟩
  obtain ⟨hc1, hc2⟩ := Bool.and_eq_true_iff.mp hc
  have ht8 := of_decide_eq_true hc1
  have hneg : ¬ (Gf11.MAX_LINES < t.length ∨ t.any (fun x => decide (Gf11.MAX_LINE < x.length)) = true) := by
    rintro (h | h)
    · exact absurd h (Nat.not_lt_of_le ht8)
    · obtain ⟨y, hy, h⟩ := List.any_eq_true.mp h
      have h1 := of_decide_eq_true (List.all_eq_true.mp hc2 y hy)
      exact absurd (of_decide_eq_true h) (Nat.not_lt_of_le h1)
  have e1' := e0.trans (if_neg hneg)
  have x2 := x1.ext e2
  have e12 := e1.trans e2
  dsimp only
  refine s_seq (s_asgN (s_order (P := P) (w := w) x2 (vl_var rfl) (vl_var rfl) hl fun B3 H3 ov e3 r3 => ?_))
  have x3 := x2.ext e3
  have e13 := e12.trans e3
  dsimp only
  refine s_seq (st_demA (B := B3) (c := (Gf11.content s.changes l).2.isEmpty) (n := -5) (fun Q2 k2 => ?_) (fun hc => ?_) fun hc B4 H4 e4 => ?_)
  · refine s_op (s_confl g hlb x3.same (vl_var rfl) r3 fun B4 H4 cv e4 r4 => ?_)
    exact r_eqNilP e4.s r4 fun q hq => k2 _ _ (e4.tmp hq)
  · refine Raised.ext ?_ e13
    exact (o.eq (e1'.trans (if_pos hc))).no rfl
  have e2' := e1'.trans (if_neg (by rw [hc]; exact fun z => nomatch z))
  have x4 := x3.ext e4
  have e14 := e13.trans e4
  have r4 := r3.mono e4.b
  dsimp only
  obtain ⟨la, vs, vl, l1, l2⟩ := v_lines (K := K) (te := tVar 4) (σ := [some (V.ref a), some (.int (n : Int)), some v, some (.ref ta), some ov, none, none, none]) T x4.same (vl_var rfl) r4
  have lenO : vs.length = (Gf11.content s.changes l).1.length := by rw [l2.1, content_len]
  refine s_seq (s_asgN (s_lcL (B := B4) (R := LineV K) (xs := vs) (ys := fun i => ((Gf11.content s.changes l).1[i]?).map (·.2)) x4.same mono_line vl (SqL.of (x4.same _ _ l1)) (by rw [l2.1]; omega) (fun _ => rfl)
    (fun i yv B5 H5 hi e5 => ⟨true, tl_yes, fun _ Q3 k3 => ?_, fun z => (nomatch z)⟩) fun B5 H5 oldv e5 r5 => ?_))
  · obtain ⟨y, hy, ry⟩ := l2.get hi
    obtain ⟨ln, hln⟩ := content_at hy
    refine s_line (x4.ext e5) (vl_var rfl) (vl_var rfl) (mono_pos _ _ _ _ e5.b ry) (List.mem_of_getElem? hln) fun u ru => k3 _ _ _ (Ext.refl e5.s) ⟨ln, ru, ?_⟩
    rw [hln]
    rfl
  rw [lenO, filterMap_map] at r5
  have x5 := x4.ext e5
  have e15 := e14.trans e5
  have e25 := (e2.trans e3).trans (e4.trans e5)
  have r5' := r5
  obtain ⟨oa, ovs, rfl, o1, o2⟩ := r5'
  have t15 := e25.b _ _ t1
  have t25 := t2.mono fun a b r => mono_line _ _ _ _ e25.b r
  dsimp only
  refine s_seq (st_dem (B := B5) (n := -6) x5.same (vl_neRow (vl_var rfl) (vl_var rfl) (x5.same _ _ o1) (lines_tup o2) (x5.same _ _ t15) (lines_tup t25) x5.same) (fun hc => ?_) fun hc => ?_)
  · have heq : (Gf11.content s.changes l).1.map (·.2) = t := by
      have : decide (((Gf11.content s.changes l).1.map (·.2)).map lineI = t.map lineI) = true := by
        cases h : decide (((Gf11.content s.changes l).1.map (·.2)).map lineI = t.map lineI) with
        | true => rfl
        | false =>
          rw [h] at hc
          cases hc
      exact lineMap_inj (of_decide_eq_true this)
    refine Raised.ext ?_ e15
    refine (o.eq (e2'.trans (if_pos ?_))).no rfl
    rw [change_between]
    exact (madeOf_none (by rw [List.length_map, List.length_map])).mpr heq
  have hne : ¬ (Gf11.content s.changes l).1.map (·.2) = t := fun z => by
    rw [z, decide_eq_true rfl] at hc
    cases hc
  have e3' := e2'.trans (if_neg (fun z => hne (by
    rw [change_between] at z
    exact (madeOf_none (by rw [List.length_map, List.length_map])).mp z)))
  dsimp only
  refine s_seq (s_askR x5 (vl_var rfl) (fun h12 => ?_) fun h12 => ?_)
  · refine Raised.ext ?_ e15
    have e : Gf13.step s (.base (.write n t)) = (s, Gf11.ok (-8)) := e3'.trans (if_pos h12)
    exact (o.eq e).no rfl
  have e4' : Gf13.step s (.base (.write n t)) = (recorded s n l (madeOf (ordOf s.changes l) ((Gf11.content s.changes l).1.map (·.2)) t), Gf11.natResult s.changes.length) := by
    refine e3'.trans ?_
    unfold Gf11.record
    rw [if_neg (show ¬ Gf11.MAX_CHANGES ≤ s.changes.length from Nat.not_le_of_lt h12), change_between]
    rfl
  have oF := o.eq e4'
  dsimp only
  obtain ⟨ms, _⟩ := x5.sa.made
  obtain ⟨hm5, hml, _⟩ := ‹_ ∧ _›
  have r55 := r4.mono e5.b
  obtain ⟨la5, vs5, vl5, l15, l25⟩ := v_lines (K := K) (te := tVar 4) (σ := [some (V.ref a), some (.int (n : Int)), some v, some (.ref ta), some ov, some (.ref oa), none, none]) T x5.same (vl_var rfl) r55
  refine s_retN (s_selfA x5.sa (vl_var rfl) (by decide +kernel) (s_cons (vl_var rfl _ (s_cons ?_))))
  refine s_call (vs := [.int (ms.length : Nat), .ref la5, .ref oa, .ref ta]) (al_cons (vl_lenL (x5.vM T (vl_var rfl)) (SqL.of hm5)) (al_cons vl5 (al_cons (vl_var rfl) (al_cons (vl_var rfl) al_nil)))) ?_
  refine ⟨B5, s.changes.length, .ref la5, .ref oa, .ref ta, ordOf s.changes l, (Gf11.content s.changes l).1.map (·.2), t, by rw [hml]; rfl, x5.same, ⟨la5, vs5, rfl, l15, l25⟩, r5, ⟨ta, tvs, rfl, t15, t25⟩, ?_, ?_, by omega, ?_, fun B6 H6 cv e6 r6 => ?_⟩
  · rw [content_len, List.length_map]
  · rw [List.length_map, ← content_len]
    omega
  · have := (madeOf_sub (ordOf s.changes l) ((Gf11.content s.changes l).1.map (·.2)) t).length_le
    rw [linesOf_eq]
    omega
  · have x6 := x5.ext e6
    have e16 := e15.trans e6
    exact ⟨B6, a, m, b, s, n, l, _, cv, rfl, x6.same, x6.sa, hl, (g.up l hlb).1, (g.up l hlb).2, h12, r6, x6.sa.back e16 oF.yes⟩
end
end Lg

-- ==== LgP23 ====
set_option Elab.async false
set_option linter.all false
set_option maxRecDepth 100000
set_option maxHeartbeats 4000000
/-! LgP23: delete. -/
namespace Lg
open PySem PySem.Spec PyProof.Rows L2
open Gf11 (Line Position Change Hunk State insertNat)
theorem dups_nodup : ∀ (n : Nat) (l : List Position), l.length ≤ n → l.eraseDups.Nodup
  | _, [], _ => by simp
  | 0, x :: l, h => by simp at h
  | n + 1, x :: l, h => by
    rw [List.eraseDups_cons, List.nodup_cons]
    refine ⟨fun z => ?_, dups_nodup n _ (Nat.le_trans (List.length_filter_le _ _) (Nat.le_of_succ_le_succ h))⟩
    rw [List.mem_eraseDups] at z
    have := (List.mem_filter.mp z).2
    simp at this
theorem count_dups {rs : List Position} {m : List (List Int)} (hn : m.Nodup) (hm : ∀ k, k ∈ m ↔ k ∈ rs.map posI) : m.length = rs.eraseDups.length := by
  have h2 : (rs.eraseDups.map posI).Nodup := by
    rw [List.Nodup, List.pairwise_map]
    exact (dups_nodup _ rs (Nat.le_refl _)).imp fun h e => h (posI_inj e)
  have hp : m.Perm (rs.eraseDups.map posI) := by
    refine (List.perm_ext_iff_of_nodup hn h2).mpr fun k => ?_
    rw [hm, List.mem_map, List.mem_map]
    constructor
    · rintro ⟨y, hy, e⟩
      exact ⟨y, List.mem_eraseDups.mpr hy, e⟩
    · rintro ⟨y, hy, e⟩
      exact ⟨y, List.mem_eraseDups.mp hy, e⟩
  rw [hp.length_eq, List.length_map]
section
variable {P : Program} {w : World} {K : PySem.W.Frag} {mg : Str → Option Value} {base : Heap}
theorem keys_of {B : Hp} : ∀ {vs : List V} {rs : List Position}, All2 (PosV K B) vs rs → ∃ ks : List (Addr × List Int), vs = ks.map (fun p => V.ref p.1) ∧ ks.map (·.2) = rs.map posI ∧ ∀ p ∈ ks, SqT K B p.1 (p.2.map V.int)
  | [], [], _ => ⟨[], rfl, rfl, fun p hp => (nomatch hp)⟩
  | [], _ :: _, h => by cases h.1
  | _ :: _, [], h => by cases h.1
  | v :: vs, x :: rs, h => by
    have h0 : PosV K B v x := h.2 0 v x rfl rfl
    obtain ⟨a, rfl, ha⟩ := h0
    obtain ⟨ks, e1, e2, e3⟩ := keys_of (vs := vs) (rs := rs) ⟨Nat.succ.inj h.1, fun i a b x y => h.2 (i + 1) a b x y⟩
    refine ⟨(a, posI x) :: ks, by rw [e1]; rfl, by rw [List.map_cons, List.map_cons, e2], fun p hp => ?_⟩
    rcases List.mem_cons.mp hp with rfl | hp
    · exact ha
    · exact e3 p hp
def spDelete (K : PySem.W.Frag) : Sp := fun vs H Q E => ∃ (B : Hp) (a m b : Addr) (s : State) (n : Nat) (v : V) (rs : List (Nat × Nat)), vs = [.ref a, .int (n : Int), v] ∧ Met K B H a m b s ∧ IntsV B v (rs.flatMap fun x => [(x.1 : Int), (x.2 : Int)]) ∧ rs.length ≤ 200 ∧
  Out K B H a m b s (Gf13.step s (.base (.delete n (rs.map fun x => Position.line x.1 x.2)))) Q E
theorem ok_delete (T : Txt K mg) : DOk P w K mg base (L2.CX P w) 6 (mad K "Session" "delete") p_Session_delete (spDelete K) := by
  refine ok_of_Session_delete T (ok_ask_branch T) (ok_pairs_in T) (ok_demand T) (ok_order T) (ok_ask_room T) (ok_record T) (ok_Change_init T) (fun vs H Q E h => ?_) fun vs H Q E h => ?_
  · obtain ⟨B, a, m, b, s, n, v, rs, rfl, _⟩ := h
    rfl
  obtain ⟨B, a, m, b, s, n, v, ps, rfl, x, hv, hz, o⟩ := h
  have hrl : (ps.map fun x => Position.line x.1 x.2).length ≤ 200 := by
    rw [List.length_map]
    exact hz
  have g := x.good
  refine s_seq (s_askB x (vl_var rfl) (vl_var rfl) (fun hn => ?_) fun l hl => ?_)
  · have e : Gf13.step s (.base (.delete n (ps.map fun x => Position.line x.1 x.2))) = (s, Gf11.ok (-2)) := by
      show Gf11.withBranch s n _ = _
      unfold Gf11.withBranch
      rw [hn]
    exact (o.eq e).no rfl
  dsimp only
  refine s_seq (s_asgN (s_call (al_cons (vl_var rfl) al_nil) ⟨B, v, ps, rfl, x.same, hv, by omega, fun B1 H1 lv e1 r1 => ?_⟩))
  generalize hrs : (ps.map fun x => Position.line x.1 x.2) = rs at o r1 hrl
  have e0 : Gf13.step s (.base (.delete n rs)) = if rs.isEmpty = true ∨ rs.eraseDups.length ≠ rs.length ∨ rs.any (fun r => !(Gf11.visibleLines s.changes l).any fun x => x.1 == r) = true then (s, Gf11.ok (-3)) else Gf11.record s n l ⟨[], rs⟩ := by
    show Gf11.withBranch s n _ = _
    unfold Gf11.withBranch
    rw [hl]
  have hlb := List.mem_of_getElem? hl
  have hol := g.ordlen hlb
  have x1 := x.ext e1
  have r1' := r1
  obtain ⟨pa, pvs, rfl, p1, p2⟩ := r1'
  dsimp only
  refine s_seq (st_demA (B := B1) (c := !rs.isEmpty && decide (rs.eraseDups.length = rs.length)) (n := -3) (fun Q2 k2 => ?_) (fun hc => ?_) fun hc B2 H2 e2 => ?_)
  · refine s_neNil (l := rs.map posI) (vl_var rfl) (x1.same _ _ p1) (pos_tup p2) x1.same fun q hq => ⟨_, rfl, ?_⟩
    have d1 := (Ext.refl x1.same).tmp (o := .lst []) hq
    rw [List.isEmpty_map]
    cases hc : rs.isEmpty with
    | true =>
      refine iteF ?_
      have := k2 _ _ d1
      rw [hc] at this
      exact this
    | false =>
      obtain ⟨ks, ev, ek, hk⟩ := keys_of p2
      have kl : ks.length = rs.length := by
        have := congrArg List.length ek
        rw [List.length_map, List.length_map] at this
        exact this
      refine iteT (s_op (s_cb (s_cons (s_cb (s_cons ⟨_, rfl, pa, ks, rfl, SqL.of (by rw [← ev]; exact d1.s _ _ p1), fun p hp => sqT_mono d1.s (hk p hp), by omega, fun sa m1 hsa mn mm => ?_⟩)))))
      have d2 := d1.tmp (o := SizeO sa m1.length) hsa
      refine ⟨sa, m1.length, rfl, upd_same, ?_⟩
      refine vl_lenL (vl_var rfl) (SqL.of (d2.s _ _ p1)) _ ⟨rfl, ?_⟩
      rw [p2.1]
      have e5 : m1.length = rs.eraseDups.length := count_dups mn fun k => by rw [mm, ek]
      have ed : decide (V.int ((m1.length : Nat) : Int) = V.int ((rs.length : Nat) : Int)) = decide (rs.eraseDups.length = rs.length) := by
        rw [e5]
        by_cases c : rs.eraseDups.length = rs.length
        · rw [decide_eq_true c, decide_eq_true (by rw [c])]
        · rw [decide_eq_false c, decide_eq_false (fun z => c (by have := V.int.inj z; omega))]
      rw [ed]
      have := k2 _ _ d2
      rw [hc] at this
      exact this
  · refine Raised.ext ?_ e1
    refine (o.eq (e0.trans (if_pos ?_))).no rfl
    rw [Bool.and_eq_false_iff] at hc
    rcases hc with hc | hc
    · refine .inl ?_
      cases q : rs.isEmpty with
      | true => rfl
      | false =>
        rw [q] at hc
        cases hc
    · exact .inr (.inl (of_decide_eq_false hc))
  obtain ⟨hc1, hc2⟩ := Bool.and_eq_true_iff.mp hc
  have n1 : ¬ rs.isEmpty = true := fun z => by
    rw [z] at hc1
    cases hc1
  have n2 : ¬ rs.eraseDups.length ≠ rs.length := fun z => z (of_decide_eq_true hc2)
  have x2 := x1.ext e2
  have e12 := e1.trans e2
  dsimp only
  refine s_seq (s_asgN (s_order (P := P) (w := w) x2 (vl_var rfl) (vl_var rfl) hl fun B3 H3 ov e3 r3 => ?_))
  have x3 := x2.ext e3
  have e13 := e12.trans e3
  obtain ⟨oa, ra, lv, rfl, ⟨⟨dx, ho⟩, _, _⟩, ⟨la, lvs, rfl, l1, l2⟩⟩ := r3
  refine ⟨oa, _, dx, _, .ref la, rfl, x3.same _ _ ho, T.cl_Order, T.a_Order_lines, fO_lines, ?_⟩
  have e23 := e2.trans e3
  have p13 := e23.b _ _ p1
  have p23 := p2.mono fun a b r => mono_pos _ _ _ _ e23.b r
  dsimp only
  refine s_seq (st_demA (B := B3) (c := rs.all fun r => decide (r ∈ vis s.changes l)) (n := -3) (fun Q2 k2 => ?_) (fun hc => ?_) fun hc B4 H4 e4 => ?_)
  · refine s_cb (s_cons ?_)
    refine s_lcL (B := B3) (R := BlV) (xs := pvs) (ys := fun i => (rs[i]?).map fun r => decide (r ∈ vis s.changes l)) x3.same mono_bl (vl_var rfl) (SqL.of (x3.same _ _ p13)) (by rw [p2.1]; omega) (fun _ => rfl)
      (fun i v B5 H5 hi e5 => ⟨true, tl_yes, fun _ Q3 k3 => ?_, fun z => (nomatch z)⟩) fun B5 H5 bv e5 r5 => ?_
    · obtain ⟨r, hr, rr⟩ := p23.get hi
      refine vl_inT (vl_var rfl) (vl_var rfl) (mono_pos _ _ _ _ e5.b rr) (e5.s _ _ (e5.b _ _ l1)) ((pos_tup l2).mono fun a b r => mono_tup _ _ _ _ e5.b r) e5.s _ (k3 _ _ _ (Ext.refl e5.s) ⟨_, rfl, ?_⟩)
      rw [hr]
      show some (decide (r ∈ vis s.changes l)) = some (decide (posI r ∈ (ordOf s.changes l).map posI))
      congr 1
      have hp : r ∈ ordOf s.changes l ↔ r ∈ vis s.changes l := (g.ord hlb).1.mem_iff
      by_cases c : r ∈ vis s.changes l
      · rw [decide_eq_true c, decide_eq_true (List.mem_map.mpr ⟨r, hp.mpr c, rfl⟩)]
      · rw [decide_eq_false c, decide_eq_false (fun z => by
          obtain ⟨y, hy, e⟩ := List.mem_map.mp z
          rw [posI_inj e] at hy
          exact c (hp.mp hy))]
    · rw [p2.1, filterMap_map] at r5
      obtain ⟨ba, bvs, rfl, b1, b2⟩ := r5
      rw [all2_bls b2] at b1
      refine ⟨ba, _, rfl, SqL.of (e5.s _ _ b1), ?_⟩
      rw [List.all_map]
      exact k2 _ _ e5
  · refine Raised.ext ?_ e13
    refine (o.eq (e0.trans (if_pos ?_))).no rfl
    refine .inr (.inr (List.any_eq_true.mpr ?_))
    rw [List.all_eq_false] at hc
    obtain ⟨y, hy, h⟩ := hc
    refine ⟨y, hy, ?_⟩
    rw [any_vis]
    cases q : decide (y ∈ vis s.changes l) with
    | true => exact absurd q h
    | false => rfl
  have hvis : ∀ r ∈ rs, r ∈ vis s.changes l := fun r hr => of_decide_eq_true (List.all_eq_true.mp hc r hr)
  have n3 : ¬ rs.any (fun r => !(Gf11.visibleLines s.changes l).any fun x => x.1 == r) = true := fun z => by
    obtain ⟨y, hy, h⟩ := List.any_eq_true.mp z
    rw [any_vis, decide_eq_true (hvis y hy)] at h
    cases h
  have e1' := e0.trans (if_neg (fun z => by rcases z with z | z | z; exact n1 z; exact n2 z; exact n3 z))
  have x4 := x3.ext e4
  have e14 := e13.trans e4
  have e24 := e23.trans e4
  dsimp only
  refine s_seq (s_askR x4 (vl_var rfl) (fun h12 => ?_) fun h12 => ?_)
  · refine Raised.ext ?_ e14
    have e : Gf13.step s (.base (.delete n rs)) = (s, Gf11.ok (-8)) := e1'.trans (if_pos h12)
    exact (o.eq e).no rfl
  have e2' : Gf13.step s (.base (.delete n rs)) = (recorded s n l ⟨[], rs⟩, Gf11.natResult s.changes.length) := by
    refine e1'.trans ?_
    unfold Gf11.record
    rw [if_neg (show ¬ Gf11.MAX_CHANGES ≤ s.changes.length from Nat.not_le_of_lt h12)]
    rfl
  have oF := o.eq e2'
  dsimp only
  obtain ⟨ms, hmm⟩ := x4.sa.made
  obtain ⟨hm5, hml, _⟩ := hmm
  refine s_retN (s_selfA x4.sa (vl_var rfl) (by decide +kernel) (s_cons (vl_var rfl _ (s_cons (s_makeA ?_)))))
  refine vl_lenL (x4.vM T (vl_var rfl)) (SqL.of hm5) _ (s_cons (s_lst al_nil (by show 0 ≤ 1000; decide) fun q hq => ⟨_, rfl, ?_⟩))
  have e5 := (Ext.refl x4.same).new (o := .lst []) hq
  have x5 := x4.ext e5
  have e15 := e14.trans e5
  have e25 := e24.trans e5
  intro c cx hcn hcx cne
  have ms' := made_same (C := gad K "Change") hcn hcx e5.s
  have bc := e5.s.free hcn
  have hs5 : LstV (HunkV K) (upd B4 q (.lst [])) (.ref q) [] := ⟨q, [], rfl, upd_same, .nil⟩
  refine ⟨_, c, cx, ((ms.length : Nat) : Int), [], .ref q, .ref pa, rfl, ms', upd_same, bc, hs5, Nat.zero_le _, fun B6 H6 lv6 e6 hc6 r6 => ⟨rfl, ?_⟩⟩
  have y3 := made_ext hcn hcx cne e5.s e6 hc6
  have bc6 : B6 c = none := e6.f c _ upd_same bc
  have sC := Same.new (o := .ins (gad K "Change") cx (fC (.int ((ms.length : Nat) : Int)) (.ref q) (.ref pa) lv6)) bc6
  have s56 := e6.b.trans sC
  have x6 := x5.ext y3
  have e16 := e15.trans y3
  have e26 := e25.trans y3
  have rc : ChangeV K (upd B6 c (.ins (gad K "Change") cx (fC (.int ((ms.length : Nat) : Int)) (.ref q) (.ref pa) lv6))) (.ref c) (s.changes.length, ⟨[], rs⟩) := by
    refine ⟨c, cx, .ref q, .ref pa, lv6, rfl, ?_, mono_lst mono_hunk _ _ _ _ s56 hs5, ⟨pa, pvs, rfl, e26.b _ _ p1, p2.mono fun a b r => mono_pos _ _ _ _ e26.b r⟩, mono_lst mono_line _ _ _ _ sC r6⟩
    rw [upd_same, hml]
  exact ⟨_, a, m, b, s, n, l, _, .ref c, rfl, x6.same, x6.sa, hl, (g.up l hlb).1, (g.up l hlb).2, h12, rc, x6.sa.back e16 oF.yes⟩
end
end Lg

-- ==== LgP24 ====
set_option Elab.async false
set_option linter.all false
set_option maxRecDepth 100000
set_option maxHeartbeats 4000000
/-! LgP24: of_making, of_asking, answer. -/
namespace Lg
open PySem PySem.Spec PyProof.Rows L2
open Gf11 (Line Position Change Hunk State insertNat)
/-- a call by its number, its own numbers, its list -/
inductive ArgsOf : Int → List Nat → List Int → Gf13.Call → Prop where
  | fork (n : Nat) (z : List Int) : ArgsOf 0 [n] z (.base (.branch n))
  | write (n k : Nat) (t : List Line) : ArgsOf 1 [n, k] (t.flatMap Gf11.encodeLine) (.base (.write n t))
  | delete (n : Nat) (rs : List (Nat × Nat)) : ArgsOf 2 [n] (rs.flatMap fun x => [(x.1 : Int), (x.2 : Int)]) (.base (.delete n (rs.map fun x => Position.line x.1 x.2)))
  | apply (n p : Nat) (z : List Int) : ArgsOf 3 [n, p] z (.base (.apply n p))
  | merge (n p : Nat) (z : List Int) : ArgsOf 4 [n, p] z (.base (.merge n p))
  | revert (n p : Nat) (z : List Int) : ArgsOf 5 [n, p] z (.base (.revert n p))
  | show_ (n : Nat) (z : List Int) : ArgsOf 6 [n] z (.base (.show_ n))
  | lines (n : Nat) (z : List Int) : ArgsOf 7 [n] z (.base (.lines n))
  | change (n : Nat) (z : List Int) : ArgsOf 8 [n] z (.base (.change n))
  | reqs (n : Nat) (z : List Int) : ArgsOf 9 [n] z (.requirements n)
  | applyAll (n p : Nat) (z : List Int) : ArgsOf 10 [n, p] z (.applyWithDependencies n p)
  | revertAll (n p : Nat) (z : List Int) : ArgsOf 11 [n, p] z (.revertWithDependents n p)
  | explain (n p i : Nat) (z : List Int) : ArgsOf 12 [n, p, i] z (.explain n p i)
  | blame (n : Nat) (z : List Int) : ArgsOf 13 [n] z (.blame n)
section
variable {P : Program} {w : World} {K : PySem.W.Frag} {mg : Str → Option Value} {base : Heap}
theorem s_ifT {t : TT} {t1 t2 : TS} {D : Ends} {σ : L2.St} {H : Hp} (h : Tl t σ H true) (k : t1 D σ H) : tIfS t t1 t2 D σ H := s_if h (fun _ => k) fun z => nomatch z
theorem s_ifF {t : TT} {t1 t2 : TS} {D : Ends} {σ : L2.St} {H : Hp} (h : Tl t σ H false) (k : t2 D σ H) : tIfS t t1 t2 D σ H := s_if h (fun z => nomatch z) fun _ => k
theorem s_ifET {t : TT} {ta tb : TE} {σ : L2.St} {H : Hp} {Q : VK} (h : Tl t σ H true) (k : ta σ H Q) : tIf t ta tb σ H Q := s_ifE h (fun _ => k) fun z => nomatch z
theorem s_ifEF {t : TT} {ta tb : TE} {σ : L2.St} {H : Hp} {Q : VK} (h : Tl t σ H false) (k : tb σ H Q) : tIf t ta tb σ H Q := s_ifE h (fun z => nomatch z) fun _ => k
theorem eq_no {σ : L2.St} {H : Hp} {n m : Int} (h : σ[1]? = some (some (.int n))) (e : decide (n = m) = false) : Tl (tTest (tOp rEq (tVar 1) (tC (.int m)))) σ H false := Tl.to (tl_test (vl_eqI (vl_var h) vl_c)) e
theorem eq_yes {σ : L2.St} {H : Hp} {n m : Int} (h : σ[1]? = some (some (.int n))) (e : decide (n = m) = true) : Tl (tTest (tOp rEq (tVar 1) (tC (.int m)))) σ H true := Tl.to (tl_test (vl_eqI (vl_var h) vl_c)) e
/-- own[i] -/
theorem v_own {B H : Hp} {σ : L2.St} {v : V} {ns : List Nat} {i : Nat} {n : Nat} (hB : Same B H) (h : σ[2]? = some (some v)) (hv : IntsV B v (toI ns)) (hn : ns[i]? = some n) : Vl (tOp (rIxL K) (tVar 2) (tC (.int (i : Int)))) σ H (.int (n : Int)) := by
  obtain ⟨a, rfl, ha⟩ := hv
  refine vl_ixL (j := i) (vl_var h) vl_c (SqL.of (hB _ _ ha)) ?_
  unfold toI
  rw [List.getElem?_map, List.getElem?_map, hn]
  rfl
def spMaking (K : PySem.W.Frag) : Sp := fun vs H Q E => ∃ (B : Hp) (a m b : Addr) (s : State) (n : Int) (ns : List Nat) (zs : List Int) (c : Gf13.Call) (ov sv : V), vs = [.ref a, .int n, ov, sv] ∧ Met K B H a m b s ∧ IntsV B ov (toI ns) ∧ IntsV B sv zs ∧ zs.length ≤ 400 ∧ n < 6 ∧ ArgsOf n ns zs c ∧ Out K B H a m b s (Gf13.step s c) Q E
theorem ok_of_making (T : Txt K mg) : DOk P w K mg base (L2.CX P w) 7 (mad K "Session" "of_making") p_Session_of_making (spMaking K) := by
  refine ok_of_Session_of_making T (ok_fork T) (ok_write T) (ok_delete T) (ok_apply T) (ok_merge T) (ok_revert T) (fun vs H Q E h => ?_) fun vs H Q E h => ?_
  · obtain ⟨B, a, m, b, s, n, ns, zs, c, ov, sv, rfl, _⟩ := h
    rfl
  obtain ⟨B, a, m, b, s, n, ns, zs, c, ov, sv, rfl, x, ho, hs, hz, h6, A, o⟩ := h
  have hB := x.same
  cases A with
  | fork n =>
    refine s_seq (s_ifT (eq_yes rfl (by decide)) (s_retN ?_))
    exact s_self x.sa (vl_var rfl) (by decide +kernel) (al_cons (v_own (i := 0) hB rfl ho rfl) al_nil) ⟨B, a, m, b, s, n, rfl, x, o⟩
  | write n k t =>
    refine s_seq (s_ifF (eq_no rfl (by decide)) ?_)
    dsimp only
    refine s_seq (s_ifT (eq_yes rfl (by decide)) (s_retN ?_))
    exact s_self x.sa (vl_var rfl) (by decide +kernel) (al_cons (v_own (i := 0) hB rfl ho rfl) (al_cons (vl_var rfl) al_nil)) ⟨B, a, m, b, s, n, sv, t, rfl, x, hs, by omega, o⟩
  | delete n rs =>
    refine s_seq (s_ifF (eq_no rfl (by decide)) ?_)
    dsimp only
    refine s_seq (s_ifF (eq_no rfl (by decide)) ?_)
    dsimp only
    refine s_seq (s_ifT (eq_yes rfl (by decide)) (s_retN ?_))
    exact s_self x.sa (vl_var rfl) (by decide +kernel) (al_cons (v_own (i := 0) hB rfl ho rfl) (al_cons (vl_var rfl) al_nil)) ⟨B, a, m, b, s, n, sv, rs, rfl, x, hs, by rw [pairs_len] at hz; omega, o⟩
  | apply n p =>
    refine s_seq (s_ifF (eq_no rfl (by decide)) ?_)
    dsimp only
    refine s_seq (s_ifF (eq_no rfl (by decide)) ?_)
    dsimp only
    refine s_seq (s_ifF (eq_no rfl (by decide)) ?_)
    dsimp only
    refine s_seq (s_ifT (eq_yes rfl (by decide)) (s_retN ?_))
    exact s_self x.sa (vl_var rfl) (by decide +kernel) (al_cons (v_own (i := 0) hB rfl ho rfl) (al_cons (v_own (i := 1) hB rfl ho rfl) al_nil)) ⟨B, a, m, b, s, n, p, rfl, x, o⟩
  | merge n p =>
    refine s_seq (s_ifF (eq_no rfl (by decide)) ?_)
    dsimp only
    refine s_seq (s_ifF (eq_no rfl (by decide)) ?_)
    dsimp only
    refine s_seq (s_ifF (eq_no rfl (by decide)) ?_)
    dsimp only
    refine s_seq (s_ifF (eq_no rfl (by decide)) ?_)
    dsimp only
    refine s_retN (s_ifET (eq_yes rfl (by decide)) ?_)
    exact s_self x.sa (vl_var rfl) (by decide +kernel) (al_cons (v_own (i := 0) hB rfl ho rfl) (al_cons (v_own (i := 1) hB rfl ho rfl) al_nil)) ⟨B, a, m, b, s, n, p, rfl, x, o⟩
  | revert n p =>
    refine s_seq (s_ifF (eq_no rfl (by decide)) ?_)
    dsimp only
    refine s_seq (s_ifF (eq_no rfl (by decide)) ?_)
    dsimp only
    refine s_seq (s_ifF (eq_no rfl (by decide)) ?_)
    dsimp only
    refine s_seq (s_ifF (eq_no rfl (by decide)) ?_)
    dsimp only
    refine s_retN (s_ifEF (eq_no rfl (by decide)) ?_)
    exact s_self x.sa (vl_var rfl) (by decide +kernel) (al_cons (v_own (i := 0) hB rfl ho rfl) (al_cons (v_own (i := 1) hB rfl ho rfl) al_nil)) ⟨B, a, m, b, s, n, p, rfl, x, o⟩
  | _ => omega
def spAsking (K : PySem.W.Frag) : Sp := fun vs H Q E => ∃ (B : Hp) (a m b : Addr) (s : State) (n : Int) (ns : List Nat) (zs : List Int) (c : Gf13.Call) (ov : V), vs = [.ref a, .int n, ov] ∧ Met K B H a m b s ∧ IntsV B ov (toI ns) ∧ 6 ≤ n ∧ ArgsOf n ns zs c ∧ Out K B H a m b s (Gf13.step s c) Q E
theorem ok_of_asking (T : Txt K mg) : DOk P w K mg base (L2.CX P w) 8 (mad K "Session" "of_asking") p_Session_of_asking (spAsking K) := by
  refine ok_of_Session_of_asking T (ok_show T) (ok_shown_lines T) (ok_change T) (ok_requirements T) (ok_apply_all T) (ok_revert_all T) (ok_explain T) (ok_blame T) (fun vs H Q E h => ?_) fun vs H Q E h => ?_
  · obtain ⟨B, a, m, b, s, n, ns, zs, c, ov, rfl, _⟩ := h
    rfl
  obtain ⟨B, a, m, b, s, n, ns, zs, c, ov, rfl, x, ho, h6, A, o⟩ := h
  have hB := x.same
  cases A with
  | show_ n =>
    refine s_seq (s_ifT (eq_yes rfl (by decide)) (s_retN ?_))
    exact s_self x.sa (vl_var rfl) (by decide +kernel) (al_cons (v_own (i := 0) hB rfl ho rfl) al_nil) ⟨B, a, m, b, s, n, rfl, x, o⟩
  | lines n =>
    refine s_seq (s_ifF (eq_no rfl (by decide)) ?_)
    dsimp only
    refine s_seq (s_ifT (eq_yes rfl (by decide)) (s_retN ?_))
    exact s_self x.sa (vl_var rfl) (by decide +kernel) (al_cons (v_own (i := 0) hB rfl ho rfl) al_nil) ⟨B, a, m, b, s, n, rfl, x, o⟩
  | change n =>
    refine s_seq (s_ifF (eq_no rfl (by decide)) ?_)
    dsimp only
    refine s_seq (s_ifF (eq_no rfl (by decide)) ?_)
    dsimp only
    refine s_seq (s_ifT (eq_yes rfl (by decide)) (s_retN ?_))
    exact s_self x.sa (vl_var rfl) (by decide +kernel) (al_cons (v_own (i := 0) hB rfl ho rfl) al_nil) ⟨B, a, m, b, s, n, rfl, x, o⟩
  | reqs n =>
    refine s_seq (s_ifF (eq_no rfl (by decide)) ?_)
    dsimp only
    refine s_seq (s_ifF (eq_no rfl (by decide)) ?_)
    dsimp only
    refine s_seq (s_ifF (eq_no rfl (by decide)) ?_)
    dsimp only
    refine s_seq (s_ifT (eq_yes rfl (by decide)) (s_retN ?_))
    exact s_self x.sa (vl_var rfl) (by decide +kernel) (al_cons (v_own (i := 0) hB rfl ho rfl) al_nil) ⟨B, a, m, b, s, n, rfl, x, o⟩
  | applyAll n p =>
    refine s_seq (s_ifF (eq_no rfl (by decide)) ?_)
    dsimp only
    refine s_seq (s_ifF (eq_no rfl (by decide)) ?_)
    dsimp only
    refine s_seq (s_ifF (eq_no rfl (by decide)) ?_)
    dsimp only
    refine s_seq (s_ifF (eq_no rfl (by decide)) ?_)
    dsimp only
    refine s_seq (s_ifT (eq_yes rfl (by decide)) (s_retN ?_))
    exact s_self x.sa (vl_var rfl) (by decide +kernel) (al_cons (v_own (i := 0) hB rfl ho rfl) (al_cons (v_own (i := 1) hB rfl ho rfl) al_nil)) ⟨B, a, m, b, s, n, p, rfl, x, o⟩
  | revertAll n p =>
    refine s_seq (s_ifF (eq_no rfl (by decide)) ?_)
    dsimp only
    refine s_seq (s_ifF (eq_no rfl (by decide)) ?_)
    dsimp only
    refine s_seq (s_ifF (eq_no rfl (by decide)) ?_)
    dsimp only
    refine s_seq (s_ifF (eq_no rfl (by decide)) ?_)
    dsimp only
    refine s_seq (s_ifF (eq_no rfl (by decide)) ?_)
    dsimp only
    refine s_seq (s_ifT (eq_yes rfl (by decide)) (s_retN ?_))
    exact s_self x.sa (vl_var rfl) (by decide +kernel) (al_cons (v_own (i := 0) hB rfl ho rfl) (al_cons (v_own (i := 1) hB rfl ho rfl) al_nil)) ⟨B, a, m, b, s, n, p, rfl, x, o⟩
  | explain n p i =>
    refine s_seq (s_ifF (eq_no rfl (by decide)) ?_)
    dsimp only
    refine s_seq (s_ifF (eq_no rfl (by decide)) ?_)
    dsimp only
    refine s_seq (s_ifF (eq_no rfl (by decide)) ?_)
    dsimp only
    refine s_seq (s_ifF (eq_no rfl (by decide)) ?_)
    dsimp only
    refine s_seq (s_ifF (eq_no rfl (by decide)) ?_)
    dsimp only
    refine s_seq (s_ifF (eq_no rfl (by decide)) ?_)
    dsimp only
    refine s_retN (s_ifET (eq_yes rfl (by decide)) ?_)
    exact s_self x.sa (vl_var rfl) (by decide +kernel) (al_cons (v_own (i := 0) hB rfl ho rfl) (al_cons (v_own (i := 1) hB rfl ho rfl) (al_cons (v_own (i := 2) hB rfl ho rfl) al_nil))) ⟨B, a, m, b, s, n, p, i, rfl, x, o⟩
  | blame n =>
    refine s_seq (s_ifF (eq_no rfl (by decide)) ?_)
    dsimp only
    refine s_seq (s_ifF (eq_no rfl (by decide)) ?_)
    dsimp only
    refine s_seq (s_ifF (eq_no rfl (by decide)) ?_)
    dsimp only
    refine s_seq (s_ifF (eq_no rfl (by decide)) ?_)
    dsimp only
    refine s_seq (s_ifF (eq_no rfl (by decide)) ?_)
    dsimp only
    refine s_seq (s_ifF (eq_no rfl (by decide)) ?_)
    dsimp only
    refine s_retN (s_ifEF (eq_no rfl (by decide)) ?_)
    exact s_self x.sa (vl_var rfl) (by decide +kernel) (al_cons (v_own (i := 0) hB rfl ho rfl) al_nil) ⟨B, a, m, b, s, n, rfl, x, o⟩
  | _ => omega
theorem s_selfSD {B H : Hp} {a m b : Addr} {s : State} {ar : TA} {vs : List V} {Q : VK} {f : Str} {sp : Sp} {E : L2.St → XK} {σ : L2.St} {ta : TE} (x : SA K B H a m b s) (ho : Vl ta σ H (.ref a)) (hf : ((f == ("made" : Str)) || (f == ("branches" : Str))) = false) (h : Al ar σ H vs) (k : sp (.ref a :: vs) H Q (E σ)) :
    tMethSD (gad K "Session") f sp E ta ar σ H Q := by
  obtain ⟨dx, ha⟩ := x.ins
  exact ho _ ⟨a, dx, _, rfl, ha, fS_none hf, h _ k⟩
def spAnswer (K : PySem.W.Frag) : Sp := fun vs H Q _ => ∃ (B : Hp) (a m b : Addr) (s : State) (n : Int) (ns : List Nat) (zs : List Int) (c : Gf13.Call) (ov sv : V), vs = [.ref a, .int n, ov, sv] ∧ Met K B H a m b s ∧ IntsV B ov (toI ns) ∧ IntsV B sv zs ∧ zs.length ≤ 400 ∧ ArgsOf n ns zs c ∧
  RetS K B H a m b (Gf13.step s c).1 Q fun B' v => IntsV B' v (Gf13Neutral.encode (Gf13.step s c).2)
theorem ok_answer (T : Txt K mg) : DOk P w K mg base CX0 9 (mad K "Session" "answer") p_Session_answer (spAnswer K) := by
  refine ok_of_Session_answer T (ok_of_making T) (ok_of_asking T) (fun vs H Q E h => ?_) fun vs H Q E h => ?_
  · obtain ⟨B, a, m, b, s, n, ns, zs, c, ov, sv, rfl, _⟩ := h
    rfl
  obtain ⟨B, a, m, b, s, n, ns, zs, c, ov, sv, rfl, x, ho, hs, hz, A, k⟩ := h
  unfold t_Session_answer tb_Session_answer
  have no : ∀ σ : L2.St, σ.length = 5 → (Gf13.step s c).1 = s → Raised K B H (WE (wAs K (.ref (gad K "Refused")) 4 (ts_Session_answer K) (fun _ _ _ _ => False) { nx := fun _ H' => Q .non H', rt := Q }) σ) ((Gf13.step s c).2.value :: (Gf13.step s c).2.fields) := by
    intro σ hσ he B' H' p d y h1 h2
    refine ⟨true, T.refx.te, fun _ e heE => ?_, fun z => (nomatch z)⟩
    refine s_retN ⟨.ref e, ?_, rfl, rfl, d, .ref p, rfl, h1, ?_⟩
    · rw [List.getElem?_set, if_pos rfl, if_pos (by rw [hσ]; decide)]
    · refine k B' H' (.ref p) y.toS ?_ ⟨p, rfl, h2⟩
      rw [he]
      exact x.sa.ext y
  refine s_retN ?_
  by_cases h6 : n < 6
  · refine s_ifET (Tl.to (tl_test (vl_lt (vl_var rfl) vl_c)) (decide_eq_true h6)) ?_
    refine s_selfSD x.sa (vl_var rfl) (by decide +kernel) (al_cons (vl_var rfl) (al_cons (vl_var rfl) (al_cons (vl_var rfl) al_nil))) ⟨B, a, m, b, s, n, ns, zs, c, ov, sv, rfl, x, ho, hs, hz, h6, A, no _ rfl, k⟩
  · refine s_ifEF (Tl.to (tl_test (vl_lt (vl_var rfl) vl_c)) (decide_eq_false h6)) ?_
    refine s_selfSD x.sa (vl_var rfl) (by decide +kernel) (al_cons (vl_var rfl) (al_cons (vl_var rfl) al_nil)) ⟨B, a, m, b, s, n, ns, zs, c, ov, rfl, x, ho, by omega, A, no _ rfl, k⟩
end
end Lg

-- ==== LgQ3 ====
set_option Elab.async false
set_option linter.all false
set_option maxRecDepth 100000
set_option maxHeartbeats 4000000
/-! LgQ3: how the calls lie in one list. -/
namespace Lg
open Gf11 (Line Position Change Hunk State insertNat)
theorem calls_nil {sh : Int → Option (Nat × Nat)} {f : Nat} {cs : List (List (List Int))} (h : PyFlat.calls sh f [] = some cs) : cs = [] := by
  cases f <;> exact (Option.some.inj h).symm
theorem calls_cons {sh : Int → Option (Nat × Nat)} {f : Nat} {p : Int} {r : List Int} {cs : List (List (List Int))} (h : PyFlat.calls sh f (p :: r) = some cs) :
    ∃ n k xs t f' cs', sh p = some (n, k) ∧ n ≤ r.length ∧ PyFlat.rows k (r.drop n) = some (xs, t) ∧ PyFlat.calls sh f' t = some cs' ∧ cs = ((p :: r.take n) :: xs) :: cs' := by
  cases f with
  | zero => cases h
  | succ f =>
    have h : (match PyFlat.call sh (p :: r) with
      | none => none
      | some (c, t) => match PyFlat.calls sh f t with
        | none => none
        | some cs => some (c :: cs)) = some cs := h
    cases hc : PyFlat.call sh (p :: r) with
    | none =>
      rw [hc] at h
      cases h
    | some ct =>
      obtain ⟨c, t⟩ := ct
      rw [hc] at h
      dsimp only at h
      cases hq : PyFlat.calls sh f t with
      | none =>
        rw [hq] at h
        cases h
      | some cs' =>
        rw [hq] at h
        have hc : (match sh p with
          | none => none
          | some (n, k) => if r.length < n then none else match PyFlat.rows k (r.drop n) with
            | none => none
            | some (xs, t) => some ((p :: r.take n) :: xs, t)) = some (c, t) := hc
        cases hs : sh p with
        | none =>
          rw [hs] at hc
          cases hc
        | some nk =>
          obtain ⟨n, k⟩ := nk
          rw [hs] at hc
          dsimp only at hc
          by_cases hl : r.length < n
          · rw [if_pos hl] at hc
            cases hc
          · rw [if_neg hl] at hc
            cases hr : PyFlat.rows k (r.drop n) with
            | none =>
              rw [hr] at hc
              cases hc
            | some xt =>
              obtain ⟨xs, t'⟩ := xt
              rw [hr] at hc
              have hc := Option.some.inj hc
              obtain ⟨rfl, rfl⟩ := Prod.mk.inj hc
              exact ⟨n, k, xs, t', f, cs', rfl, Nat.le_of_not_lt hl, hr, hq, (Option.some.inj h).symm⟩
theorem rows0 {r t : List Int} {xs : List (List Int)} (h : PyFlat.rows 0 r = some (xs, t)) : xs = [] ∧ t = r := by
  obtain ⟨h1, h2⟩ := Prod.mk.inj (Option.some.inj (show some ([], r) = some (xs, t) from h))
  exact ⟨h1.symm, h2.symm⟩
theorem rows1 {r t : List Int} {xs : List (List Int)} (h : PyFlat.rows 1 r = some (xs, t)) : ∃ (c : Nat) (r' : List Int), r = (c : Int) :: r' ∧ c ≤ r'.length ∧ xs = [r'.take c] ∧ t = r'.drop c := by
  have h : (match PyFlat.row r with
    | none => none
    | some (x, s) => match PyFlat.rows 0 s with
      | none => none
      | some (xs, t) => some (x :: xs, t)) = some (xs, t) := h
  cases r with
  | nil => cases h
  | cons n r' =>
    have e : PyFlat.row (n :: r') = if 0 ≤ n ∧ n.toNat ≤ r'.length then some (r'.take n.toNat, r'.drop n.toNat) else none := rfl
    by_cases c : 0 ≤ n ∧ n.toNat ≤ r'.length
    · rw [if_pos c] at e
      rw [e] at h
      obtain ⟨h1, h2⟩ := Prod.mk.inj (Option.some.inj (show some ([r'.take n.toNat], r'.drop n.toNat) = some (xs, t) from h))
      exact ⟨n.toNat, r', by rw [Int.toNat_of_nonneg c.1], c.2, h1.symm, h2.symm⟩
    · rw [if_neg c] at e
      rw [e] at h
      cases h
/-- how many own numbers a call has -/
def numOf : List Nat := [1, 2, 1, 2, 2, 2, 1, 1, 1, 1, 2, 2, 3, 1]
theorem shape_cases {p : Int} {n k : Nat} (h : PyGf13.shape p = some (n, k)) : ∃ j : Nat, p = (j : Int) ∧ numOf[j]? = some n ∧ ((k = 1 ∧ (j = 1 ∨ j = 2)) ∨ (k = 0 ∧ j ≠ 1 ∧ j ≠ 2)) ∧ j < 14 := by
  unfold PyGf13.shape at h
  by_cases c0 : p = 0
  · rw [if_pos c0] at h
    cases h
    exact ⟨0, c0, rfl, .inr ⟨rfl, by decide, by decide⟩, by decide⟩
  rw [if_neg c0] at h
  by_cases c1 : p = 1
  · rw [if_pos c1] at h
    cases h
    exact ⟨1, c1, rfl, .inl ⟨rfl, by decide⟩, by decide⟩
  rw [if_neg c1] at h
  by_cases c2 : p = 2
  · rw [if_pos c2] at h
    cases h
    exact ⟨2, c2, rfl, .inl ⟨rfl, by decide⟩, by decide⟩
  rw [if_neg c2] at h
  by_cases c3 : p = 3
  · rw [if_pos c3] at h
    cases h
    exact ⟨3, c3, rfl, .inr ⟨rfl, by decide, by decide⟩, by decide⟩
  rw [if_neg c3] at h
  by_cases c4 : p = 4
  · rw [if_pos c4] at h
    cases h
    exact ⟨4, c4, rfl, .inr ⟨rfl, by decide, by decide⟩, by decide⟩
  rw [if_neg c4] at h
  by_cases c5 : p = 5
  · rw [if_pos c5] at h
    cases h
    exact ⟨5, c5, rfl, .inr ⟨rfl, by decide, by decide⟩, by decide⟩
  rw [if_neg c5] at h
  by_cases c6 : p = 6
  · rw [if_pos c6] at h
    cases h
    exact ⟨6, c6, rfl, .inr ⟨rfl, by decide, by decide⟩, by decide⟩
  rw [if_neg c6] at h
  by_cases c7 : p = 7
  · rw [if_pos c7] at h
    cases h
    exact ⟨7, c7, rfl, .inr ⟨rfl, by decide, by decide⟩, by decide⟩
  rw [if_neg c7] at h
  by_cases c8 : p = 8
  · rw [if_pos c8] at h
    cases h
    exact ⟨8, c8, rfl, .inr ⟨rfl, by decide, by decide⟩, by decide⟩
  rw [if_neg c8] at h
  by_cases c9 : p = 9
  · rw [if_pos c9] at h
    cases h
    exact ⟨9, c9, rfl, .inr ⟨rfl, by decide, by decide⟩, by decide⟩
  rw [if_neg c9] at h
  by_cases c10 : p = 10
  · rw [if_pos c10] at h
    cases h
    exact ⟨10, c10, rfl, .inr ⟨rfl, by decide, by decide⟩, by decide⟩
  rw [if_neg c10] at h
  by_cases c11 : p = 11
  · rw [if_pos c11] at h
    cases h
    exact ⟨11, c11, rfl, .inr ⟨rfl, by decide, by decide⟩, by decide⟩
  rw [if_neg c11] at h
  by_cases c12 : p = 12
  · rw [if_pos c12] at h
    cases h
    exact ⟨12, c12, rfl, .inr ⟨rfl, by decide, by decide⟩, by decide⟩
  rw [if_neg c12] at h
  by_cases c13 : p = 13
  · rw [if_pos c13] at h
    cases h
    exact ⟨13, c13, rfl, .inr ⟨rfl, by decide, by decide⟩, by decide⟩
  rw [if_neg c13] at h
  cases h

/-! ### decoding -/
theorem naturals_of {m : Nat} {l : List Int} {r : List Nat} (h : Gf13Neutral.naturals m l = some r) : r = l.map Int.toNat ∧ ∀ z ∈ l, 0 ≤ z ∧ z ≤ (m : Int) := by
  unfold Gf13Neutral.naturals at h
  split at h
  · rename_i c
    refine ⟨(Option.some.inj h).symm, fun z hz => ?_⟩
    have := List.all_eq_true.mp c.2 z hz
    rw [Bool.and_eq_true] at this
    exact ⟨of_decide_eq_true this.1, of_decide_eq_true this.2⟩
  · cases h
theorem map_naturals {m : Nat} {l : List Int} {α : Type} {y x : α} (h : (Gf13Neutral.naturals m l).map (fun _ => y) = some x) : y = x ∧ ∀ z ∈ l, 0 ≤ z := by
  obtain ⟨r, hr, e⟩ := Option.map_eq_some_iff.mp h
  exact ⟨e, fun z hz => ((naturals_of hr).2 z hz).1⟩
theorem toI_toNat : ∀ {l : List Int}, (∀ z ∈ l, 0 ≤ z) → toI (l.map Int.toNat) = l
  | [], _ => rfl
  | z :: l, h => by
    have h1 := h z List.mem_cons_self
    have h2 := toI_toNat (l := l) fun y hy => h y (List.mem_cons_of_mem _ hy)
    show ((z.toNat : Nat) : Int) :: toI (l.map Int.toNat) = z :: l
    rw [h2, Int.toNat_of_nonneg h1]
theorem decode_lines : ∀ (n : Nat) (l : List Nat) (t : List Line), Gf13Neutral.decodeLines n l = some t → toI l = t.flatMap Gf11.encodeLine ∧ ∀ x ∈ t, ∀ y ∈ x, y ∈ l
  | 0, [], t, h => by
    rw [← Option.some.inj (show some [] = some t from h)]
    exact ⟨rfl, fun x hx => (nomatch hx)⟩
  | 0, _ :: _, t, h => by cases h
  | n + 1, [], t, h => by cases h
  | n + 1, k :: l, t, h => by
    have h : (if k ≤ l.length then (Gf13Neutral.decodeLines n (l.drop k)).map fun r => l.take k :: r else none) = some t := h
    by_cases c : k ≤ l.length
    · rw [if_pos c] at h
      obtain ⟨r, hr, rfl⟩ := Option.map_eq_some_iff.mp h
      obtain ⟨ih1, ih2⟩ := decode_lines n _ _ hr
      refine ⟨?_, fun x hx y hy => ?_⟩
      · rw [List.flatMap_cons, ← ih1]
        unfold Gf11.encodeLine
        rw [List.length_take, Nat.min_eq_left c]
        show (k : Int) :: toI l = (k : Int) :: (toI (l.take k) ++ toI (l.drop k))
        rw [← toI_append, List.take_append_drop]
      · rcases List.mem_cons.mp hx with rfl | hx
        · exact List.mem_cons_of_mem _ (List.mem_of_mem_take hy)
        · exact List.mem_cons_of_mem _ (List.mem_of_mem_drop (ih2 x hx y hy))
    · rw [if_neg c] at h
      cases h
theorem decode_pos : ∀ (l : List Nat) (t : List Position), Gf13Neutral.decodePositions l = some t → ∃ rs : List (Nat × Nat), t = rs.map (fun x => Position.line x.1 x.2) ∧ toI l = rs.flatMap fun x => [(x.1 : Int), (x.2 : Int)]
  | [], t, h => by
    rw [← Option.some.inj (show some [] = some t from h)]
    exact ⟨[], rfl, rfl⟩
  | [_], t, h => by cases h
  | p :: i :: l, t, h => by
    obtain ⟨r, hr, rfl⟩ := Option.map_eq_some_iff.mp (show (Gf13Neutral.decodePositions l).map (fun r => Position.line p i :: r) = some t from h)
    obtain ⟨rs, rfl, e⟩ := decode_pos l r hr
    refine ⟨(p, i) :: rs, rfl, ?_⟩
    rw [List.flatMap_cons, ← e]
    rfl
theorem callOf_dec {l : List Int} {x : Gf13.Call} (h : Gf13Neutral.callOf l = some x) : Gf13Neutral.decodeCall l = some x := by
  unfold Gf13Neutral.callOf at h
  split at h
  · cases h
  · exact h
theorem short_of {l : List Int} {r : List Nat} (h : Gf13Neutral.shortNaturals l = some r) : l.length ≤ 400 ∧ r = l.map Int.toNat ∧ ∀ z ∈ l, 0 ≤ z ∧ z ≤ 1000000 := by
  unfold Gf13Neutral.shortNaturals at h
  split at h
  · rename_i c
    obtain ⟨h1, h2⟩ := naturals_of h
    exact ⟨c, h1, h2⟩
  · cases h
/-- a call as its parts tell it -/
theorem args_of {p : Int} {own : List Int} {xs : List (List Int)} {n k : Nat} {x : Gf13.Call} (hs : PyGf13.shape p = some (n, k)) (ho : own.length = n) (hx : xs.length = k) (hc : Gf13Neutral.callOf ((PyGf13.whole ((p :: own) :: xs)).headD []) = some x) :
    ∃ ns, own = toI ns ∧ ArgsOf p ns (xs.headD []) x ∧ CallOk x ∧ (xs.headD []).length ≤ 400 := by
  have hd := callOf_dec hc
  clear hc
  obtain ⟨j, rfl, hj, hk, hlt⟩ := shape_cases hs
  clear hs
  have one : ∀ {m : Nat}, numOf[j]? = some m → m = 1 → ∃ x0, own = [x0] := fun {m} h1 h2 => by
    rw [hj] at h1
    have : own.length = 1 := by rw [ho, Option.some.inj h1, h2]
    match own, this with
    | [x0], _ => exact ⟨x0, rfl⟩
  have two : ∀ {m : Nat}, numOf[j]? = some m → m = 2 → ∃ x0 x1, own = [x0, x1] := fun {m} h1 h2 => by
    rw [hj] at h1
    have : own.length = 2 := by rw [ho, Option.some.inj h1, h2]
    match own, this with
    | [x0, x1], _ => exact ⟨x0, x1, rfl⟩
  have three : ∀ {m : Nat}, numOf[j]? = some m → m = 3 → ∃ x0 x1 x2, own = [x0, x1, x2] := fun {m} h1 h2 => by
    rw [hj] at h1
    have : own.length = 3 := by rw [ho, Option.some.inj h1, h2]
    match own, this with
    | [x0, x1, x2], _ => exact ⟨x0, x1, x2, rfl⟩
  have none_ : j ≠ 1 → j ≠ 2 → xs = [] := fun h1 h2 => by
    rcases hk with ⟨_, h | h⟩ | ⟨h, _⟩
    · exact absurd h h1
    · exact absurd h h2
    · exact List.eq_nil_of_length_eq_zero (hx.trans h)
  have some_ : j = 1 ∨ j = 2 → ∃ r, xs = [r] := fun h => by
    rcases hk with ⟨h, _⟩ | ⟨_, h1, h2⟩
    · have : xs.length = 1 := hx.trans h
      match xs, this with
      | [r], _ => exact ⟨r, rfl⟩
    · rcases h with h | h
      · exact absurd h h1
      · exact absurd h h2
  have w1 : ∀ {x0 : Int}, (∀ z ∈ [x0], 0 ≤ z) → [x0] = toI [x0.toNat] := fun h => (toI_toNat h).symm
  have w2 : ∀ {x0 x1 : Int}, (∀ z ∈ [x0, x1], 0 ≤ z) → [x0, x1] = toI [x0.toNat, x1.toNat] := fun h => (toI_toNat h).symm
  have w3 : ∀ {x0 x1 x2 : Int}, (∀ z ∈ [x0, x1, x2], 0 ≤ z) → [x0, x1, x2] = toI [x0.toNat, x1.toNat, x2.toNat] := fun h => (toI_toNat h).symm
  match j, hlt with
  | 0, _ =>
    obtain ⟨x0, rfl⟩ := one rfl rfl
    obtain rfl := none_ (by decide) (by decide)
    have hd : ((Gf13Neutral.naturals 1000000 [x0]).map fun _ => Gf11.Call.branch x0.toNat).map Gf13.Call.base = some x := hd
    rw [Option.map_map] at hd
    obtain ⟨rfl, h⟩ := map_naturals hd
    exact ⟨_, w1 h, .fork _ _, trivial, Nat.zero_le _⟩
  | 1, _ =>
    obtain ⟨x0, x1, rfl⟩ := two rfl rfl
    obtain ⟨r, rfl⟩ := some_ (by decide)
    have hd : ((Gf13Neutral.shortNaturals (x0 :: x1 :: r)).bind fun l => if x1 ≤ 400 then (Gf13Neutral.decodeLines x1.toNat (l.drop 2)).map fun t => Gf11.Call.write x0.toNat t else none).map Gf13.Call.base = some x := by
      rw [← hd]
      rfl
    obtain ⟨y, hy, rfl⟩ := Option.map_eq_some_iff.mp hd
    obtain ⟨l, hl, h2⟩ := Option.bind_eq_some_iff.mp hy
    obtain ⟨h400, rfl, hz⟩ := short_of hl
    split at h2
    · obtain ⟨t, ht, rfl⟩ := Option.map_eq_some_iff.mp h2
      obtain ⟨e1, e2⟩ := decode_lines _ _ _ ht
      have e3 : toI (((x0 :: x1 :: r).map Int.toNat).drop 2) = r := toI_toNat fun z h => (hz z (List.mem_cons_of_mem _ (List.mem_cons_of_mem _ h))).1
      rw [e3] at e1
      refine ⟨_, w2 fun z h => ?_, ?_, fun w hw y hy => ?_, ?_⟩
      · refine (hz z ?_).1
        rcases List.mem_cons.mp h with h | h
        · rw [h]
          exact List.mem_cons_self
        · rw [List.mem_singleton.mp h]
          exact List.mem_cons_of_mem _ List.mem_cons_self
      · show ArgsOf 1 _ r _
        rw [e1]
        exact .write _ _ _
      · have h3 := e2 w hw y hy
        have h3 : y ∈ r.map Int.toNat := h3
        obtain ⟨z, h4, rfl⟩ := List.mem_map.mp h3
        have := (hz z (List.mem_cons_of_mem _ (List.mem_cons_of_mem _ h4)))
        omega
      · show r.length ≤ 400
        simp only [List.length_cons] at h400
        omega
    · cases h2
  | 2, _ =>
    obtain ⟨x0, rfl⟩ := one rfl rfl
    obtain ⟨r, rfl⟩ := some_ (by decide)
    have hd : ((Gf13Neutral.shortNaturals (x0 :: r)).bind fun l => (Gf13Neutral.decodePositions (l.drop 1)).map fun t => Gf11.Call.delete x0.toNat t).map Gf13.Call.base = some x := by
      rw [← hd]
      rfl
    obtain ⟨y, hy, rfl⟩ := Option.map_eq_some_iff.mp hd
    obtain ⟨l, hl, h2⟩ := Option.bind_eq_some_iff.mp hy
    obtain ⟨h400, rfl, hz⟩ := short_of hl
    obtain ⟨t, ht, rfl⟩ := Option.map_eq_some_iff.mp h2
    obtain ⟨rs, rfl, e1⟩ := decode_pos _ _ ht
    have e3 : toI (((x0 :: r).map Int.toNat).drop 1) = r := toI_toNat fun z h => (hz z (List.mem_cons_of_mem _ h)).1
    rw [e3] at e1
    simp only [List.length_cons] at h400
    have el := congrArg List.length e1
    rw [pairs_len] at el
    refine ⟨_, w1 fun z h => ?_, ?_, ?_, ?_⟩
    · rw [List.mem_singleton.mp h]
      exact (hz x0 List.mem_cons_self).1
    · show ArgsOf 2 _ r _
      rw [e1]
      exact .delete _ _
    · show (rs.map fun x => Position.line x.1 x.2).length ≤ 200
      rw [List.length_map]
      omega
    · show r.length ≤ 400
      omega
  | 3, _ =>
    obtain ⟨x0, x1, rfl⟩ := two rfl rfl
    obtain rfl := none_ (by decide) (by decide)
    have hd : ((Gf13Neutral.naturals 1000000 [x0, x1]).map fun _ => Gf11.Call.apply x0.toNat x1.toNat).map Gf13.Call.base = some x := hd
    rw [Option.map_map] at hd
    obtain ⟨rfl, h⟩ := map_naturals hd
    exact ⟨_, w2 h, .apply _ _ _, trivial, Nat.zero_le _⟩
  | 4, _ =>
    obtain ⟨x0, x1, rfl⟩ := two rfl rfl
    obtain rfl := none_ (by decide) (by decide)
    have hd : ((Gf13Neutral.naturals 1000000 [x0, x1]).map fun _ => Gf11.Call.merge x0.toNat x1.toNat).map Gf13.Call.base = some x := hd
    rw [Option.map_map] at hd
    obtain ⟨rfl, h⟩ := map_naturals hd
    exact ⟨_, w2 h, .merge _ _ _, trivial, Nat.zero_le _⟩
  | 5, _ =>
    obtain ⟨x0, x1, rfl⟩ := two rfl rfl
    obtain rfl := none_ (by decide) (by decide)
    have hd : ((Gf13Neutral.naturals 1000000 [x0, x1]).map fun _ => Gf11.Call.revert x0.toNat x1.toNat).map Gf13.Call.base = some x := hd
    rw [Option.map_map] at hd
    obtain ⟨rfl, h⟩ := map_naturals hd
    exact ⟨_, w2 h, .revert _ _ _, trivial, Nat.zero_le _⟩
  | 6, _ =>
    obtain ⟨x0, rfl⟩ := one rfl rfl
    obtain rfl := none_ (by decide) (by decide)
    have hd : ((Gf13Neutral.naturals 1000000 [x0]).map fun _ => Gf11.Call.show_ x0.toNat).map Gf13.Call.base = some x := hd
    rw [Option.map_map] at hd
    obtain ⟨rfl, h⟩ := map_naturals hd
    exact ⟨_, w1 h, .show_ _ _, trivial, Nat.zero_le _⟩
  | 7, _ =>
    obtain ⟨x0, rfl⟩ := one rfl rfl
    obtain rfl := none_ (by decide) (by decide)
    have hd : ((Gf13Neutral.naturals 1000000 [x0]).map fun _ => Gf11.Call.lines x0.toNat).map Gf13.Call.base = some x := hd
    rw [Option.map_map] at hd
    obtain ⟨rfl, h⟩ := map_naturals hd
    exact ⟨_, w1 h, .lines _ _, trivial, Nat.zero_le _⟩
  | 8, _ =>
    obtain ⟨x0, rfl⟩ := one rfl rfl
    obtain rfl := none_ (by decide) (by decide)
    have hd : ((Gf13Neutral.naturals 1000000 [x0]).map fun _ => Gf11.Call.change x0.toNat).map Gf13.Call.base = some x := hd
    rw [Option.map_map] at hd
    obtain ⟨rfl, h⟩ := map_naturals hd
    exact ⟨_, w1 h, .change _ _, trivial, Nat.zero_le _⟩
  | 9, _ =>
    obtain ⟨x0, rfl⟩ := one rfl rfl
    obtain rfl := none_ (by decide) (by decide)
    have hd : (Gf13Neutral.naturals 1000000 [x0]).map (fun _ => Gf13.Call.requirements x0.toNat) = some x := hd
    obtain ⟨rfl, h⟩ := map_naturals hd
    exact ⟨_, w1 h, .reqs _ _, trivial, Nat.zero_le _⟩
  | 10, _ =>
    obtain ⟨x0, x1, rfl⟩ := two rfl rfl
    obtain rfl := none_ (by decide) (by decide)
    have hd : (Gf13Neutral.naturals 1000000 [x0, x1]).map (fun _ => Gf13.Call.applyWithDependencies x0.toNat x1.toNat) = some x := hd
    obtain ⟨rfl, h⟩ := map_naturals hd
    exact ⟨_, w2 h, .applyAll _ _ _, trivial, Nat.zero_le _⟩
  | 11, _ =>
    obtain ⟨x0, x1, rfl⟩ := two rfl rfl
    obtain rfl := none_ (by decide) (by decide)
    have hd : (Gf13Neutral.naturals 1000000 [x0, x1]).map (fun _ => Gf13.Call.revertWithDependents x0.toNat x1.toNat) = some x := hd
    obtain ⟨rfl, h⟩ := map_naturals hd
    exact ⟨_, w2 h, .revertAll _ _ _, trivial, Nat.zero_le _⟩
  | 12, _ =>
    obtain ⟨x0, x1, x2, rfl⟩ := three rfl rfl
    obtain rfl := none_ (by decide) (by decide)
    have hd : (Gf13Neutral.naturals 1000000 [x0, x1, x2]).map (fun _ => Gf13.Call.explain x0.toNat x1.toNat x2.toNat) = some x := hd
    obtain ⟨rfl, h⟩ := map_naturals hd
    exact ⟨_, w3 h, .explain _ _ _ _, trivial, Nat.zero_le _⟩
  | 13, _ =>
    obtain ⟨x0, rfl⟩ := one rfl rfl
    obtain rfl := none_ (by decide) (by decide)
    have hd : (Gf13Neutral.naturals 1000000 [x0]).map (fun _ => Gf13.Call.blame x0.toNat) = some x := hd
    obtain ⟨rfl, h⟩ := map_naturals hd
    exact ⟨_, w1 h, .blame _ _, trivial, Nat.zero_le _⟩
end Lg

-- ==== LgP25 ====
set_option Elab.async false
set_option linter.all false
set_option maxRecDepth 100000
set_option maxHeartbeats 4000000
/-! LgP25: answers. -/
namespace Lg
open PySem PySem.Spec PyProof.Rows L2
open Gf11 (Line Position Change Hunk State insertNat)
abbrev stp : State → List (List Int) → State × List Int := fun s c => Gf13Neutral.step s (c.headD [])
theorem drop_cons {α : Type} {l : List α} {i : Nat} (h : i < l.length) : ∃ x, l[i]? = some x ∧ l.drop i = x :: l.drop (i + 1) := ⟨l[i], List.getElem?_eq_getElem h, drop_at (List.getElem?_eq_getElem h)⟩
section
variable {P : Program} {w : World} {K : PySem.W.Frag} {mg : Str → Option Value} {base : Heap}
theorem SA.off {B H : Hp} {a m b D : Addr} {s : State} {o : HO} (x : SA K B H a m b s) (ha : D ≠ a) (hm : D ≠ m) (hb : D ≠ b) : SA K B (upd H D o) a m b s := by
  obtain ⟨⟨dx, h1⟩, h2, h3, h4, ⟨vs, h5, h6⟩, ⟨ws, h7, h8⟩⟩ := x
  exact ⟨⟨dx, (upd_ne (Ne.symm ha)).trans h1⟩, h2, h3, h4, ⟨vs, (upd_ne (Ne.symm hm)).trans h5, h6⟩, ⟨ws, (upd_ne (Ne.symm hb)).trans h7, h8⟩⟩
theorem same_off {B H : Hp} {D : Addr} {o : HO} (h : Same B H) (hb : B D = none) : Same B (upd H D o) := fun a v q => by
  rw [upd_ne (ne_of_none q hb)]
  exact h a v q
def spMain (K : PySem.W.Frag) : Sp := fun vs H Q _ => ∃ (ca : Addr) (l : List Int), vs = [.ref ca] ∧ SqL K H ca (l.map V.int) ∧ PyGf13.answers_asked l = true ∧ ∀ H' r, Same H H' → H' r = some (.lst ((PyGf13.answers l).map V.int)) → Q (.ref r) H'
theorem asked_of {l : List Int} (h : PyGf13.answers_asked l = true) : ∃ raw, PyFlat.calls PyGf13.shape l.length l = some raw ∧ (∀ c ∈ raw, Gf13Neutral.asked1 ((PyGf13.whole c).headD []) = true) ∧ (PyGf13.answers l).length ≤ 10000000 ∧ PyGf13.answers l = PyFlat.told (PyFlat.played stp Gf13Neutral.start (raw.map PyGf13.whole)) := by
  unfold PyGf13.answers_asked at h
  cases hr : PyFlat.calls PyGf13.shape l.length l with
  | none =>
    rw [hr] at h
    cases h
  | some raw =>
    rw [hr] at h
    dsimp only at h
    rw [Bool.and_eq_true, Bool.and_eq_true, Bool.and_eq_true, Bool.and_eq_true] at h
    obtain ⟨⟨⟨⟨_, _⟩, _⟩, h4⟩, h5⟩ := h
    refine ⟨raw, rfl, fun c hc => ?_, of_decide_eq_true h5, ?_⟩
    · unfold Gf13Neutral.asked at h4
      rw [Bool.and_eq_true] at h4
      refine List.all_eq_true.mp h4.1 _ (List.mem_map.mpr ⟨PyGf13.whole c, List.mem_map.mpr ⟨c, hc, rfl⟩, rfl⟩)
    · unfold PyGf13.answers PyGf13.calls
      rw [hr]
/-- a turn's end: the call is answered, the answer told -/
theorem s_turn {D : Ends} {B3 H3 : Hp} {x m b F : Addr} {s : State} {n : Int} {ns : List Nat} {zs acc : List Int} {c : Gf13.Call} {ov sv : V} {σ : L2.St} (M : Met K B3 H3 x m b s) (bF : B3 F = none) (hF : H3 F = some (.lst (acc.map V.int))) (Fm : F ≠ m) (Fb : F ≠ b)
    (h1 : σ[1]? = some (some (.ref x))) (h2 : σ[2]? = some (some (.ref F))) (h5 : σ[5]? = some (some (.int n))) (h7 : σ[7]? = some (some ov)) (h8 : σ[8]? = some (some sv)) (h4 : 4 < σ.length)
    (ho : IntsV B3 ov (toI ns)) (hs : IntsV B3 sv zs) (hz : zs.length ≤ 400) (A : ArgsOf n ns zs c) (ok : CallOk c) (hl : acc.length + (Gf13Neutral.encode (Gf13.step s c).2).length + 1 ≤ 10000000)
    (k : ∀ B4 H4 va, Same B3 B4 → Met K B4 H4 x m b (Gf13.step s c).1 → B4 F = none → H4 F = some (.lst ((acc ++ (((Gf13Neutral.encode (Gf13.step s c).2).length : Int) :: Gf13Neutral.encode (Gf13.step s c).2)).map V.int)) → D.nx (σ.set 4 (some va)) H4) :
    (tSeq (tAsg (tMeth (gad K "Session") "answer" (spAnswer K) [] E0 (tVar 1) (tCons (tVar 5) (tCons (tVar 7) (tCons (tVar 8) tNil)))) (gName 4))
      (tSeq (tDrop (tBM K "list" rAppend (tVar 2) (tCons (tCB (rLen K) (tCons (tVar 4) tNil)) tNil)))
      (tDrop (tBM K "list" rExtend (tVar 2) (tCons (tVar 4) tNil))))) D σ H3 := by
  refine s_seq (s_asgN (s_self M.sa (vl_var h1) (by decide +kernel) (al_cons (vl_var h5) (al_cons (vl_var h7) (al_cons (vl_var h8) al_nil))) ⟨B3, x, m, b, s, n, ns, zs, c, ov, sv, rfl, M, ho, hs, hz, A, fun B4 H4 v4 e4 S4 r4 => ?_⟩))
  have hF4 := e4.h _ _ hF Fm Fb
  have bF4 := e4.f _ _ hF bF
  obtain ⟨ra, rfl, hra⟩ := r4
  have Fx : F ≠ x := fun z => by
    obtain ⟨_, h⟩ := S4.ins
    rw [← z, hF4] at h
    cases h
  have g4 := good_step M.good ok
  generalize Gf13Neutral.encode (Gf13.step s c).2 = en at hl hra k
  have s2 : (σ.set 4 (some (.ref ra)))[2]? = some (some (.ref F)) := by
    rw [List.getElem?_set, if_neg (by decide)]
    exact h2
  have s4 : (σ.set 4 (some (.ref ra)))[4]? = some (some (.ref ra)) := by rw [List.getElem?_set, if_pos rfl, if_pos h4]
  dsimp only
  refine s_seq (s_appI (vl_var s2) hF4 (vl_lenL (vl_var s4) (SqL.of (e4.s _ _ hra))) (by omega) ?_)
  rw [List.length_map]
  have sm5 := same_off (o := .lst ((acc ++ [(en.length : Int)]).map V.int)) e4.s bF4
  have S5 := S4.off (o := .lst ((acc ++ [(en.length : Int)]).map V.int)) Fx Fm Fb
  have hF5 : (upd H4 F (.lst ((acc ++ [(en.length : Int)]).map V.int))) F = some _ := upd_same
  generalize upd H4 F (.lst ((acc ++ [(en.length : Int)]).map V.int)) = H5 at sm5 S5 hF5
  dsimp only
  refine s_dropN (s_bm (vl_var s2 _ ⟨.inl ⟨rfl, _, SqL.of hF5⟩, s_cons (vl_var s4 _ ⟨F, ra, _, _, rfl, rfl, hF5, sm5 _ _ hra, szl (by rw [List.length_map, List.length_map, List.length_append, List.length_singleton]; omega), ?_⟩)⟩))
  refine k B4 _ _ e4.b ⟨same_off sm5 bF4, S5.off Fx Fm Fb, g4⟩ bF4 ?_
  rw [upd_same, ← List.map_append, List.append_assoc]
  rfl
theorem len_answers (vs : List V) (H : Hp) (Q : VK) (E : XK) (h : spMain K vs H Q E) : vs.length = p_answers.length := by
  obtain ⟨ca, l, rfl, _⟩ := h
  rfl
theorem walk_answers (T : Txt K mg) (vs : List V) (H : Hp) (Q : VK) (E : XK) (h : spMain K vs H Q E) : t_answers K P w (spSessInit K) (spAnswer K) { nx := fun _ H' => Q .non H', rt := Q } (start N_answers vs) H := by
  obtain ⟨ca, l, rfl, hca, hask, k⟩ := h
  obtain ⟨raw, hraw, hall, hshort, hans⟩ := asked_of hask
  generalize PyGf13.answers l = ans at hshort hans k
  refine s_seq (s_par3 (s_cons (s_make al_nil fun x dx hx hdx dne => ?_)))
  have ms := made_same (C := gad K "Session") (B := H) hx hdx (Same.refl H)
  refine ⟨H, x, dx, rfl, ms, upd_same, hx, fun B1 H1 m b s1 s2 hk hf hS hm hb => ⟨rfl, ?_⟩⟩
  refine s_cons (s_lst al_nil (by show 0 ≤ 1000; decide) fun F hF => vl_c _ ⟨_, _, _, rfl, ?_⟩)
  have bF : B1 F = none := s2.free hF
  have Fm : F ≠ m := fun z => hS.nm (z ▸ hF)
  have Fb : F ≠ b := fun z => hS.nb (z ▸ hF)
  have Fx : F ≠ x := fun z => by
    obtain ⟨_, h⟩ := hS.ins
    rw [← z, hF] at h
    cases h
  dsimp only
  refine s_seq (s_while (fun k0 σ H' => ∃ (B2 : Hp) (i f : Nat) (cs : List (List (List Int))) (s : State) (acc : List Int) (v4 v5 v6 v7 v8 : Option V), σ = [some (.ref ca), some (.ref x), some (.ref F), some (.int (i : Int)), v4, v5, v6, v7, v8] ∧ Same H B2 ∧ Met K B2 H' x m b s ∧ B2 F = none ∧
    H' F = some (.lst (acc.map V.int)) ∧ i ≤ l.length ∧ PyFlat.calls PyGf13.shape f (l.drop i) = some cs ∧ (∀ c ∈ cs, Gf13Neutral.asked1 ((PyGf13.whole c).headD []) = true) ∧ acc ++ PyFlat.told (PyFlat.played stp s (cs.map PyGf13.whole)) = ans ∧ k0 = l.length - i) l.length ?_ ?_)
  · refine ⟨B1, 0, l.length, raw, Gf11.init, [], none, none, none, none, none, rfl, s1, ⟨same_off s2 bF, hS.off Fx Fm Fb, good_init⟩, bF, upd_same, Nat.zero_le _, hraw, hall, hans.symm, rfl⟩
  · rintro k0 σ H' ⟨B2, i, f, cs, s, acc, v4, v5, v6, v7, v8, rfl, sH, M, b2, hF2, hi, hcs, hak, hres, rfl⟩
    have hca2 : SqL K H' ca (l.map V.int) := Same.seq (sH.trans M.same) hca
    refine ⟨_, tl_test (vl_lt (vl_var rfl) (vl_lenL (vl_var rfl) hca2)), fun hb1 => ?_, fun hb1 => ?_⟩
    · rw [List.length_map] at hb1
      have hil : i < l.length := by have := of_decide_eq_true hb1; omega
      obtain ⟨p, hp, hdr⟩ := drop_cons hil
      generalize hr : l.drop (i + 1) = r at hdr
      rw [hdr] at hcs
      obtain ⟨n, kk, xs, t, f', cs', hsh, hn, hrows, hcs', rfl⟩ := calls_cons hcs
      obtain ⟨j, rfl, hj, hkk, hj14⟩ := shape_cases hsh
      have hc1 := hak _ List.mem_cons_self
      obtain ⟨c, hc⟩ := Option.isSome_iff_exists.mp hc1
      have hxk : xs.length = kk := by
        rcases hkk with ⟨rfl, _⟩ | ⟨rfl, _⟩
        · obtain ⟨_, _, _, _, rfl, _⟩ := rows1 hrows
          rfl
        · obtain ⟨rfl, _⟩ := rows0 hrows
          rfl
      obtain ⟨ns, hns, hA, hok, hz4⟩ := args_of hsh (by rw [List.length_take]; omega) hxk hc
      have hrl : r.length + (i + 1) = l.length := by
        rw [← hr, List.length_drop]
        omega
      have vi : ∀ {q : Int} {y : Nat}, l[y]? = some q → (l.map V.int)[y]? = some (.int q) := fun h => by rw [List.getElem?_map, h]; rfl
      have hnum : ([.int (1), .int (2), .int (1), .int (2), .int (2), .int (2), .int (1), .int (1), .int (1), .int (1), .int (2), .int (2), .int (3), .int (1)] : List V)[j]? = some (.int (n : Int)) := by
        have e : ([.int (1), .int (2), .int (1), .int (2), .int (2), .int (2), .int (1), .int (1), .int (1), .int (1), .int (2), .int (2), .int (3), .int (1)] : List V) = numOf.map fun (n : Nat) => V.int (n : Int) := rfl
        rw [e, List.getElem?_map, hj]
        rfl
      refine ⟨_, fun σ2 H2 z => z, ?_⟩
      -- number, many
      refine s_seq (s_par (al_cons (vl_ixL (j := i) (vl_var rfl) (vl_var rfl) hca2 (vi hp)) (al_cons (vl_ixT (j := j) vl_c (vl_ixL (j := i) (vl_var rfl) (vl_var rfl) hca2 (vi hp)) (T.t_NUMBERS H') hnum) al_nil) _ ⟨_, _, rfl, ?_⟩))
      dsimp only
      refine s_seq (s_par (s_cons ?_))
      refine s_cut (lo := some ((i + 1 : Nat) : Int)) (hi := some ((i + 1 + n : Nat) : Int)) (vl_var rfl) (po_vl (vl_add (n := i) (m := 1) (vl_var rfl) vl_c)) (po_vl (Vl.to (vl_add (n := (i : Int) + 1) (m := (n : Int)) (vl_add (n := i) (m := 1) (vl_var rfl) vl_c) (vl_var rfl)) (by congr 1))) hca2 fun q hq => ?_
      rw [cut_range _ _ _ (by rw [List.length_map]; omega), ← List.map_drop, ← List.map_take, hr, show i + 1 + n - (i + 1) = n by omega]
      have e3 := (Ext.refl M.same).new (o := .lst ((r.take n).map V.int)) hq
      have hF3 := e3.h _ _ hF2
      have b3 := e3.f _ _ hF2 b2
      refine s_cons (s_lst al_nil (by show 0 ≤ 1000; decide) fun q2 hq2 => ⟨_, _, rfl, ?_⟩)
      have e4 := e3.new (o := .lst []) hq2
      have hF4 := e4.h _ _ hF2
      have b4 := e4.f _ _ hF2 b2
      have M4 := M.ext e4
      have oq : IntsV (upd (upd B2 q (.lst ((r.take n).map V.int))) q2 (.lst [])) (.ref q) (toI ns) := by
        refine ⟨q, rfl, ?_⟩
        have : q2 ≠ q := fun z => by
          rw [z, upd_same] at hq2
          cases hq2
        rw [upd_ne (Ne.symm this), upd_same, hns]
      have sq2 : IntsV (upd (upd B2 q (.lst ((r.take n).map V.int))) q2 (.lst [])) (.ref q2) [] := ⟨q2, rfl, upd_same⟩
      have sB : Same B2 (upd (upd B2 q (.lst ((r.take n).map V.int))) q2 (.lst [])) := e4.b
      generalize (upd (upd B2 q (.lst ((r.take n).map V.int))) q2 (.lst [])) = B4 at M4 b4 oq sq2 sB
      generalize (upd (upd H' q (.lst ((r.take n).map V.int))) q2 (.lst [])) = H4 at M4 hF4
      have hca4 : SqL K H4 ca (l.map V.int) := Same.seq ((sH.trans sB).trans M4.same) hca
      dsimp only
      refine s_seq (s_aug rfl (vl_add vl_c (vl_var rfl)) ?_)
      have ei : (i : Int) + (1 + (n : Int)) = ((i + (1 + n) : Nat) : Int) := by omega
      dsimp only
      rw [ei]
      -- what a turn leaves
      have hst : stp s (PyGf13.whole (((j : Int) :: r.take n) :: xs)) = ((Gf13.step s c).1, Gf13Neutral.encode (Gf13.step s c).2) := by
        show Gf13Neutral.step s ((PyGf13.whole (((j : Int) :: r.take n) :: xs)).headD []) = _
        unfold Gf13Neutral.step
        rw [hc]
      have hres2 : (acc ++ (((Gf13Neutral.encode (Gf13.step s c).2).length : Int) :: Gf13Neutral.encode (Gf13.step s c).2)) ++ PyFlat.told (PyFlat.played stp (Gf13.step s c).1 (cs'.map PyGf13.whole)) = ans := by
        rw [← hres, List.map_cons]
        show _ = acc ++ PyFlat.told ((stp s (PyGf13.whole (((j : Int) :: r.take n) :: xs))).2 :: PyFlat.played stp (stp s (PyGf13.whole (((j : Int) :: r.take n) :: xs))).1 (cs'.map PyGf13.whole))
        rw [hst, List.append_assoc]
        rfl
      have hlen : acc.length + (Gf13Neutral.encode (Gf13.step s c).2).length + 1 ≤ 10000000 := by
        have := congrArg List.length hres2
        rw [List.length_append, List.length_append, List.length_cons] at this
        omega
      have tin : Tl (tTest (tOp (rIn K false) (tVar 5) (tC (.ref (gad K "WITH_LIST"))))) ((([some (V.ref ca), some (V.ref x), some (V.ref F), some (V.int ((i + (1 + n) : Nat) : Int)), v4, some (V.int (j : Int)), some (V.int (n : Int)), some (V.ref q), some (V.ref q2)] : L2.St))) H4 (decide ((j : Int) ∈ ([1, 2] : List Int))) := tl_test (vl_in (ns := [1, 2]) (vl_var rfl) vl_c (.inr (T.t_WITH_LIST H4)))
      refine s_seq ?_
      rcases hkk with ⟨rfl, hj12⟩ | ⟨rfl, hj1, hj2⟩
      · -- with a list
        obtain ⟨cnt, r', hdn, hcn, rfl, rfl⟩ := rows1 hrows
        refine s_ifT (Tl.to tin (decide_eq_true (by rcases hj12 with rfl | rfl <;> decide))) ?_
        have d1 : l.drop (i + (1 + n)) = (cnt : Int) :: r' := by
          rw [show i + (1 + n) = (i + 1) + n by omega, ← List.drop_drop, hr, hdn]
        have hat : l[i + (1 + n)]? = some (cnt : Int) := by
          have : (l.drop (i + (1 + n)))[0]? = some (cnt : Int) := by rw [d1]; rfl
          rw [List.getElem?_drop, Nat.add_zero] at this
          exact this
        have d2 : l.drop (i + (1 + n) + 1) = r' := by rw [← List.drop_drop, d1]; rfl
        have l2 : r'.length + (i + (1 + n) + 1) = l.length := by
          have h1 := congrArg List.length d1
          rw [List.length_drop, List.length_cons] at h1
          omega
        have vcnt : ∀ {H5 : Hp} {v8 : Option V}, SqL K H5 ca (l.map V.int) → Vl (tOp (rIxL K) (tVar 0) (tVar 3)) [some (V.ref ca), some (V.ref x), some (V.ref F), some (V.int ((i + (1 + n) : Nat) : Int)), v4, some (V.int (j : Int)), some (V.int (n : Int)), some (V.ref q), v8] H5 (.int (cnt : Int)) := fun h => vl_ixL (j := i + (1 + n)) (vl_var rfl) (vl_var rfl) h (vi hat)
        refine s_seq (s_asgN ?_)
        refine s_cut (lo := some ((i + (1 + n) + 1 : Nat) : Int)) (hi := some ((i + (1 + n) + 1 + cnt : Nat) : Int)) (vl_var rfl) (po_vl (vl_add (n := ((i + (1 + n) : Nat) : Int)) (m := 1) (vl_var rfl) vl_c)) (po_vl (Vl.to (vl_add (n := ((i + (1 + n) : Nat) : Int) + 1) (m := (cnt : Int)) (vl_add (n := ((i + (1 + n) : Nat) : Int)) (m := 1) (vl_var rfl) vl_c) (vcnt hca4)) (by congr 1))) hca4 fun q3 hq3 => ?_
        rw [cut_range _ _ _ (by rw [List.length_map]; omega), ← List.map_drop, ← List.map_take, d2, show i + (1 + n) + 1 + cnt - (i + (1 + n) + 1) = cnt by omega]
        have e5 := (Ext.refl M4.same).new (o := .lst ((r'.take cnt).map V.int)) hq3
        have hF5 := e5.h _ _ hF4
        have b5 := e5.f _ _ hF4 b4
        have M5 := M4.ext e5
        have sq3 : IntsV (upd B4 q3 (.lst ((r'.take cnt).map V.int))) (.ref q3) (r'.take cnt) := ⟨q3, rfl, upd_same⟩
        have oq5 := mono_ints _ _ _ _ e5.b oq
        have sB5 := sB.trans e5.b
        generalize (upd B4 q3 (.lst ((r'.take cnt).map V.int))) = B5 at M5 b5 oq5 sq3 sB5
        generalize (upd H4 q3 (.lst ((r'.take cnt).map V.int))) = H5 at M5 hF5
        have hca5 : SqL K H5 ca (l.map V.int) := Same.seq ((sH.trans sB5).trans M5.same) hca
        dsimp only
        refine s_aug rfl (vl_add vl_c (vcnt hca5)) ?_
        have ei2 : ((i + (1 + n) : Nat) : Int) + (1 + (cnt : Int)) = ((i + (1 + n) + (1 + cnt) : Nat) : Int) := by omega
        dsimp only
        rw [ei2]
        refine s_turn M5 b5 hF5 Fm Fb rfl rfl rfl rfl rfl (by show 4 < 9; decide) oq5 sq3 hz4 hA hok hlen fun B6 H6 va s6 M6 b6 hF6 => ?_
        refine ⟨l.length - (i + (1 + n) + (1 + cnt)), by omega, B6, i + (1 + n) + (1 + cnt), f', cs', _, _, _, _, _, _, _, rfl, (sH.trans sB5).trans s6, M6, b6, hF6, by omega, ?_, fun c hc => hak c (List.mem_cons_of_mem _ hc), hres2, rfl⟩
        rw [show i + (1 + n) + (1 + cnt) = (i + (1 + n) + 1) + cnt by omega, ← List.drop_drop, d2]
        exact hcs'
      · obtain ⟨rfl, rfl⟩ := rows0 hrows
        refine s_ifF (Tl.to tin (decide_eq_false (fun z => by
          rcases List.mem_cons.mp z with z | z
          · exact hj1 (by omega)
          · rcases List.mem_cons.mp z with z | z
            · exact hj2 (by omega)
            · cases z))) ?_
        refine s_turn M4 b4 hF4 Fm Fb rfl rfl rfl rfl rfl (by show 4 < 9; decide) oq sq2 (Nat.zero_le _) hA hok hlen fun B6 H6 va s6 M6 b6 hF6 => ?_
        refine ⟨l.length - (i + (1 + n)), by omega, B6, i + (1 + n), f', cs', _, _, _, _, _, _, _, rfl, (sH.trans sB).trans s6, M6, b6, hF6, by omega, ?_, fun c hc => hak c (List.mem_cons_of_mem _ hc), hres2, rfl⟩
        rw [show i + (1 + n) = (i + 1) + n by omega, ← List.drop_drop, hr]
        exact hcs'
    · rw [List.length_map] at hb1
      have hil : l.length ≤ i := by have := of_decide_eq_false hb1; omega
      rw [List.drop_eq_nil_of_le hil] at hcs
      obtain rfl := calls_nil hcs
      have : acc = ans := by
        rw [← hres]
        exact (List.append_nil acc).symm
      subst this
      exact ⟨_, rfl, k _ _ (sH.trans M.same) hF2⟩
theorem fn_answers (T : Txt K mg) {fd : FuncData} (F : FunD K "answers" "answers" (defArgs s_answers) (defBody s_answers) (defScope s_answers) [] [] (gad K "answers") fd) : FnOk P w K mg base CX0 10 (gad K "answers") fd p_answers (spMain K) :=
  F.ok sc_answers len_answers fun cdv A outer s H vs Q E hr q => ⟨_, (der_answers T (ok_Session_init T) (ok_answer T) hr).nox, walk_answers T vs H Q E q⟩
end
end Lg

-- ==== LgHead ====
set_option Elab.async false
set_option linter.all false
set_option maxRecDepth 100000
set_option maxHeartbeats 0
/-! LgHead: the head's facts by names, the run (printed by gen_head.py). -/
namespace Lg
open PySem PySem.Spec PyProof.Rows L2
def fa0 : List He.Fa := [.glo "kept_table", .glo "difference_of", .glo "written_change", .glo "steps_of", .glo "reached_from", .glo "visible_of", .glo "demand", .glo "told_row", .glo "told_line", .glo "lines_in", .glo "pairs_in", .glo "answers", .glo "Change", .cls "Change", .mkr "Change", .glo "Difference", .cls "Difference", .mkr "Difference", .glo "Order", .cls "Order", .mkr "Order", .glo "Session", .cls "Session", .mkr "Session", .meth "Change" "chains", .meth "Change" "dependencies", .noat "Change" "number", .noat "Change" "hunks", .noat "Change" "deleted", .noat "Change" "lines"]
def fa1 : List He.Fa := [.noat "Difference" "deleted", .noat "Difference" "inserted", .meth "Order" "precedes", .meth "Order" "next_of", .meth "Order" "conflicts", .noat "Order" "reached", .noat "Order" "lines", .meth "Session" "ask_branch", .meth "Session" "ask_change", .meth "Session" "ask_room", .meth "Session" "order", .meth "Session" "line_at", .meth "Session" "add", .meth "Session" "record", .meth "Session" "required", .meth "Session" "fork", .meth "Session" "write", .meth "Session" "delete", .meth "Session" "apply", .meth "Session" "merge", .meth "Session" "revert", .meth "Session" "text_order", .meth "Session" "show", .meth "Session" "shown_lines", .meth "Session" "change", .meth "Session" "requirements", .meth "Session" "apply_all", .meth "Session" "revert_all", .meth "Session" "explain", .meth "Session" "blame"]
def fa2 : List He.Fa := [.meth "Session" "of_making", .meth "Session" "of_asking", .meth "Session" "answer", .noat "Session" "made", .noat "Session" "branches", .free "len", .free "list", .free "tuple", .free "set", .free "sorted", .free "max", .free "any", .free "all", .free "range", .free "enumerate", .free "zip", .int "MOST_BRANCHES" (5), .int "MOST_CHANGES" (12), .int "MOST_LINES" (8), .int "MOST_BYTES" (12), .int "LIMITS" (-1), .int "NO_BRANCH" (-2), .int "NOT_THERE" (-3), .int "DEPENDENCIES" (-4), .int "CONFLICTS" (-5), .int "NOTHING" (-6), .int "TOO_MANY" (-8), .int "VISIBLE" (1), .int "AWAY" (2), .glo "START"]
def fa3 : List He.Fa := [.glo "END", .glo "NUMBERS", .glo "WITH_LIST", .glo "Refused"]
def faL : List He.Fa := fa0 ++ fa1 ++ fa2 ++ fa3
def fn0 : List He.DefD := [⟨("Change", some "__init__"), "__init__", "Change.__init__", defArgs (inClass (topS 3) 0), defBody (inClass (topS 3) 0), defScope (inClass (topS 3) 0), [], []⟩,
  ⟨("Change", some "chains"), "chains", "Change.chains", defArgs (inClass (topS 3) 1), defBody (inClass (topS 3) 1), defScope (inClass (topS 3) 1), [], []⟩,
  ⟨("Change", some "dependencies"), "dependencies", "Change.dependencies", defArgs (inClass (topS 3) 2), defBody (inClass (topS 3) 2), defScope (inClass (topS 3) 2), [], []⟩,
  ⟨("kept_table", none), "kept_table", "kept_table", defArgs (topS 4), defBody (topS 4), defScope (topS 4), [], []⟩,
  ⟨("Difference", some "__init__"), "__init__", "Difference.__init__", defArgs (inClass (topS 5) 0), defBody (inClass (topS 5) 0), defScope (inClass (topS 5) 0), [], []⟩,
  ⟨("difference_of", none), "difference_of", "difference_of", defArgs (topS 6), defBody (topS 6), defScope (topS 6), [], []⟩,
  ⟨("written_change", none), "written_change", "written_change", defArgs (topS 7), defBody (topS 7), defScope (topS 7), [], []⟩,
  ⟨("steps_of", none), "steps_of", "steps_of", defArgs (topS 9), defBody (topS 9), defScope (topS 9), [], []⟩,
  ⟨("reached_from", none), "reached_from", "reached_from", defArgs (topS 10), defBody (topS 10), defScope (topS 10), [], []⟩,
  ⟨("visible_of", none), "visible_of", "visible_of", defArgs (topS 11), defBody (topS 11), defScope (topS 11), [], []⟩,
  ⟨("Order", some "__init__"), "__init__", "Order.__init__", defArgs (inClass (topS 12) 0), defBody (inClass (topS 12) 0), defScope (inClass (topS 12) 0), [], []⟩,
  ⟨("Order", some "precedes"), "precedes", "Order.precedes", defArgs (inClass (topS 12) 1), defBody (inClass (topS 12) 1), defScope (inClass (topS 12) 1), [], []⟩,
  ⟨("Order", some "next_of"), "next_of", "Order.next_of", defArgs (inClass (topS 12) 2), defBody (inClass (topS 12) 2), defScope (inClass (topS 12) 2), [], []⟩,
  ⟨("Order", some "conflicts"), "conflicts", "Order.conflicts", defArgs (inClass (topS 12) 3), defBody (inClass (topS 12) 3), defScope (inClass (topS 12) 3), [], []⟩,
  ⟨("demand", none), "demand", "demand", defArgs (topS 30), defBody (topS 30), defScope (topS 30), [], []⟩,
  ⟨("told_row", none), "told_row", "told_row", defArgs (topS 31), defBody (topS 31), defScope (topS 31), [], []⟩]
def fn1 : List He.DefD := [⟨("told_line", none), "told_line", "told_line", defArgs (topS 32), defBody (topS 32), defScope (topS 32), [], []⟩,
  ⟨("lines_in", none), "lines_in", "lines_in", defArgs (topS 33), defBody (topS 33), defScope (topS 33), [], []⟩,
  ⟨("pairs_in", none), "pairs_in", "pairs_in", defArgs (topS 34), defBody (topS 34), defScope (topS 34), [], []⟩,
  ⟨("Session", some "__init__"), "__init__", "Session.__init__", defArgs (inClass (topS 35) 0), defBody (inClass (topS 35) 0), defScope (inClass (topS 35) 0), [], []⟩,
  ⟨("Session", some "ask_branch"), "ask_branch", "Session.ask_branch", defArgs (inClass (topS 35) 1), defBody (inClass (topS 35) 1), defScope (inClass (topS 35) 1), [], []⟩,
  ⟨("Session", some "ask_change"), "ask_change", "Session.ask_change", defArgs (inClass (topS 35) 2), defBody (inClass (topS 35) 2), defScope (inClass (topS 35) 2), [], []⟩,
  ⟨("Session", some "ask_room"), "ask_room", "Session.ask_room", defArgs (inClass (topS 35) 3), defBody (inClass (topS 35) 3), defScope (inClass (topS 35) 3), [], []⟩,
  ⟨("Session", some "order"), "order", "Session.order", defArgs (inClass (topS 35) 4), defBody (inClass (topS 35) 4), defScope (inClass (topS 35) 4), [], []⟩,
  ⟨("Session", some "line_at"), "line_at", "Session.line_at", defArgs (inClass (topS 35) 5), defBody (inClass (topS 35) 5), defScope (inClass (topS 35) 5), [], []⟩,
  ⟨("Session", some "add"), "add", "Session.add", defArgs (inClass (topS 35) 6), defBody (inClass (topS 35) 6), defScope (inClass (topS 35) 6), [], []⟩,
  ⟨("Session", some "record"), "record", "Session.record", defArgs (inClass (topS 35) 7), defBody (inClass (topS 35) 7), defScope (inClass (topS 35) 7), [], []⟩,
  ⟨("Session", some "required"), "required", "Session.required", defArgs (inClass (topS 35) 8), defBody (inClass (topS 35) 8), defScope (inClass (topS 35) 8), [], []⟩,
  ⟨("Session", some "fork"), "fork", "Session.fork", defArgs (inClass (topS 35) 9), defBody (inClass (topS 35) 9), defScope (inClass (topS 35) 9), [], []⟩,
  ⟨("Session", some "write"), "write", "Session.write", defArgs (inClass (topS 35) 10), defBody (inClass (topS 35) 10), defScope (inClass (topS 35) 10), [], []⟩,
  ⟨("Session", some "delete"), "delete", "Session.delete", defArgs (inClass (topS 35) 11), defBody (inClass (topS 35) 11), defScope (inClass (topS 35) 11), [], []⟩,
  ⟨("Session", some "apply"), "apply", "Session.apply", defArgs (inClass (topS 35) 12), defBody (inClass (topS 35) 12), defScope (inClass (topS 35) 12), [], []⟩]
def fn2 : List He.DefD := [⟨("Session", some "merge"), "merge", "Session.merge", defArgs (inClass (topS 35) 13), defBody (inClass (topS 35) 13), defScope (inClass (topS 35) 13), [], []⟩,
  ⟨("Session", some "revert"), "revert", "Session.revert", defArgs (inClass (topS 35) 14), defBody (inClass (topS 35) 14), defScope (inClass (topS 35) 14), [], []⟩,
  ⟨("Session", some "text_order"), "text_order", "Session.text_order", defArgs (inClass (topS 35) 15), defBody (inClass (topS 35) 15), defScope (inClass (topS 35) 15), [], []⟩,
  ⟨("Session", some "show"), "show", "Session.show", defArgs (inClass (topS 35) 16), defBody (inClass (topS 35) 16), defScope (inClass (topS 35) 16), [], []⟩,
  ⟨("Session", some "shown_lines"), "shown_lines", "Session.shown_lines", defArgs (inClass (topS 35) 17), defBody (inClass (topS 35) 17), defScope (inClass (topS 35) 17), [], []⟩,
  ⟨("Session", some "change"), "change", "Session.change", defArgs (inClass (topS 35) 18), defBody (inClass (topS 35) 18), defScope (inClass (topS 35) 18), [], []⟩,
  ⟨("Session", some "requirements"), "requirements", "Session.requirements", defArgs (inClass (topS 35) 19), defBody (inClass (topS 35) 19), defScope (inClass (topS 35) 19), [], []⟩,
  ⟨("Session", some "apply_all"), "apply_all", "Session.apply_all", defArgs (inClass (topS 35) 20), defBody (inClass (topS 35) 20), defScope (inClass (topS 35) 20), [], []⟩,
  ⟨("Session", some "revert_all"), "revert_all", "Session.revert_all", defArgs (inClass (topS 35) 21), defBody (inClass (topS 35) 21), defScope (inClass (topS 35) 21), [], []⟩,
  ⟨("Session", some "explain"), "explain", "Session.explain", defArgs (inClass (topS 35) 22), defBody (inClass (topS 35) 22), defScope (inClass (topS 35) 22), [], []⟩,
  ⟨("Session", some "blame"), "blame", "Session.blame", defArgs (inClass (topS 35) 23), defBody (inClass (topS 35) 23), defScope (inClass (topS 35) 23), [], []⟩,
  ⟨("Session", some "of_making"), "of_making", "Session.of_making", defArgs (inClass (topS 35) 24), defBody (inClass (topS 35) 24), defScope (inClass (topS 35) 24), [], []⟩,
  ⟨("Session", some "of_asking"), "of_asking", "Session.of_asking", defArgs (inClass (topS 35) 25), defBody (inClass (topS 35) 25), defScope (inClass (topS 35) 25), [], []⟩,
  ⟨("Session", some "answer"), "answer", "Session.answer", defArgs (inClass (topS 35) 26), defBody (inClass (topS 35) 26), defScope (inClass (topS 35) 26), [], []⟩,
  ⟨("answers", none), "answers", "answers", defArgs (topS 36), defBody (topS 36), defScope (topS 36), [], []⟩]
def dRef : He.DefD := ⟨("Refused", some "__init__"), "__init__", "Refused.__init__", defArgs (inClass (topS 29) 0), defBody (inClass (topS 29) 0), defScope (inClass (topS 29) 0), [], []⟩
def fnL : List He.DefD := fn0 ++ fn1 ++ fn2 ++ [dRef]
def nRef : Nat := 47
/-- Refused's class object -/
def excC (K : PySem.W.Frag) (C : Addr) : Bool := match K.lookup C with
  | some ⟨.type "type", _, .cls cd, sl⟩ => (match cd.mro, sl.toList with
    | .ref C' :: bm, [_, _, _, _, some (.builtin n), _] => decide (C' = C) && (decide (n = "Exception.__new__") && (!cd.hasDel && (cd.hasDict && decide (bm = PySem.LgRx.exTail))))
    | _, _ => false)
  | _ => false
theorem excC_ok {K : PySem.W.Frag} {C : Addr} (q : excC K C = true) : ∃ nm qn N bs bm sn sub ab col dd k0 k1 k2 k3 k5, K.lookup C = some (excClassObj nm qn C N bs bm true sn sub ab col dd k0 k1 k2 k3 k5 "Exception.__new__") ∧ bm = PySem.LgRx.exTail := by
  unfold excC at q
  split at q
  · rename_i dd cd sl ho
    split at q
    · rename_i C' bm k0 k1 k2 k3 n k5 hm hs
      obtain ⟨q1, q⟩ := He.ba q
      obtain ⟨q2, q⟩ := He.ba q
      obtain ⟨q3, q⟩ := He.ba q
      obtain ⟨q4, q5⟩ := He.ba q
      have e1 := of_decide_eq_true q1
      have e2 := of_decide_eq_true q2
      have e5 := of_decide_eq_true q5
      subst e1 e2
      obtain ⟨nm, bs, mro, ns, qn, hd, sn, sub, ab, col, del⟩ := cd
      simp only at hm q3 q4
      have e3 : del = false := by
        cases del with
        | false => rfl
        | true => cases q3
      subst hm e3 q4
      have hsl : sl = #[k0, k1, k2, k3, some (.builtin "Exception.__new__"), k5] := by
        obtain ⟨l⟩ := sl
        simp only at hs
        rw [hs]
      subst hsl
      exact ⟨nm, qn, ns, bs, bm, sn, sub, ab, col, dd, k0, k1, k2, k3, k5, ho, e5⟩
    · cases q
  · cases q
def isNone_ : Value → Bool
  | .none => true
  | _ => false
def kvNone (K : PySem.W.Frag) (f : Addr) : Bool := match K.lookup f with
  | some ⟨_, _, .func fd, _⟩ => isNone_ fd.kwdefaults
  | _ => false
def refB (K : PySem.W.Frag) : Bool := excC K (gad K "Refused") && (He.eqO (PySem.W.findIn K (.ref (gad K "Refused")) "__setattr__") (some (some (.builtin "object.__setattr__"))) && (He.eqO (PySem.W.findIn K (.ref (gad K "Refused")) "__getattribute__") (some (some (.builtin "BaseException.__getattribute__"))) &&
  (He.eqO (PySem.W.findIn K (.ref (gad K "Refused")) "__getattr__") (some none) && (He.eqO (PySem.W.findIn K (.ref (gad K "Refused")) "told") (some none) && (He.eqO (PySem.W.findIn K (.ref (gad K "Refused")) "__init__") (some (some (.ref (mad K "Refused" "__init__")))) &&
  (decide (PySem.W.typeIn K (.ref (mad K "Refused" "__init__")) = some (.type "function")) && (PySem.W.keepIn K (.ref (gad K "Refused")) && (decide (PySem.W.subIn K (.ref (gad K "Refused")) (.type "BaseException") = some true) && (decide (PySem.W.typeIn K (.ref (gad K "Refused")) = some (.type "type")) &&
  (PySem.W.hasDictIn K (gad K "Refused") && (decide (PySem.W.exmOne K (.ref (gad K "Refused")) (.ref (gad K "Refused")) = some true) && kvNone K (mad K "Refused" "__init__"))))))))))))
def exB (K : PySem.W.Frag) : Bool := refB K && (He.tupB K "START" [He.Dv.int (-1), He.Dv.int (0)] && (He.tupB K "END" [He.Dv.int (-2), He.Dv.int (0)] && (He.tupB K "NUMBERS" [He.Dv.int (1), He.Dv.int (2), He.Dv.int (1), He.Dv.int (2), He.Dv.int (2), He.Dv.int (2), He.Dv.int (1), He.Dv.int (1), He.Dv.int (1), He.Dv.int (1), He.Dv.int (2), He.Dv.int (2), He.Dv.int (3), He.Dv.int (1)] && (He.tupB K "WITH_LIST" [He.Dv.int (1), He.Dv.int (2)]))))
def obsX (K : PySem.W.Frag) : He.AlD := (exB K && (He.obsD faL fnL K).1, (He.obsD faL fnL K).2)
def SaysX (K : PySem.W.Frag) : Prop := obsX K = He.valD fnL
def obsXG (n : Nat) (g : Addr → Option Obj) : He.AlD := obsX (He.frG g (He.asD g n))
def hookX (n : Nat) : PySem.W.Hook where
  α := He.AlD
  obs := fun s => obsXG n s.heap.get?
  val := fun _ => He.valD fnL
  says := fun _ h => ∃ K : PySem.W.Frag, K.In h ∧ SaysX K
  of := fun _ _ e => ⟨_, He.frG_in, e⟩
  keeps := fun _ _ _ ⟨K, hK, c⟩ k => ⟨K, PySem.W.Frag.In.keeps hK k, c⟩
theorem obsXG_eq {n : Nat} {g : Addr → Option Obj} {s : Shared} (h : ∀ a, g a = s.heap.get? a) : obsXG n g = (hookX n).obs s := by
  have e : g = s.heap.get? := funext h
  rw [e] <;> rfl
theorem SaysX.d {K : PySem.W.Frag} (c : SaysX K) : He.SaysD faL fnL K := by
  have c1 : (exB K && (He.obsD faL fnL K).1) = true := congrArg (fun z : He.AlD => z.1) c
  have c2 : (He.obsD faL fnL K).2 = fnL.map He.DefD.val := congrArg (fun z : He.AlD => z.2) c
  exact Prod.ext (He.ba c1).2 c2
theorem SaysX.e {K : PySem.W.Frag} (c : SaysX K) : exB K = true := (He.ba (show (exB K && (He.obsD faL fnL K).1) = true from congrArg (fun z : He.AlD => z.1) c)).1
theorem x_START {K : PySem.W.Frag} (e : exB K = true) : He.tupB K "START" [He.Dv.int (-1), He.Dv.int (0)] = true := (He.ba (He.ba e).2).1
theorem x_END {K : PySem.W.Frag} (e : exB K = true) : He.tupB K "END" [He.Dv.int (-2), He.Dv.int (0)] = true := (He.ba (He.ba (He.ba e).2).2).1
theorem x_NUMBERS {K : PySem.W.Frag} (e : exB K = true) : He.tupB K "NUMBERS" [He.Dv.int (1), He.Dv.int (2), He.Dv.int (1), He.Dv.int (2), He.Dv.int (2), He.Dv.int (2), He.Dv.int (1), He.Dv.int (1), He.Dv.int (1), He.Dv.int (1), He.Dv.int (2), He.Dv.int (2), He.Dv.int (3), He.Dv.int (1)] = true := (He.ba (He.ba (He.ba (He.ba e).2).2).2).1
theorem x_WITH_LIST {K : PySem.W.Frag} (e : exB K = true) : He.tupB K "WITH_LIST" [He.Dv.int (1), He.Dv.int (2)] = true := (He.ba (He.ba (He.ba (He.ba e).2).2).2).2
theorem ref_ok {K : PySem.W.Frag} {h : Heap} {mg : Str → Option Value} (X : K.In h) (G : h.Ns mainGlobals mg) (c : He.SaysD faL fnL K) (e : exB K = true) : PySem.LgRx.RefTxt K mg (gad K "Refused") (mad K "Refused" "__init__") := by
  have r : refB K = true := (He.ba e).1
  obtain ⟨r1, r⟩ := He.ba r
  obtain ⟨r2, r⟩ := He.ba r
  obtain ⟨r3, r⟩ := He.ba r
  obtain ⟨r4, r⟩ := He.ba r
  obtain ⟨r5, r⟩ := He.ba r
  obtain ⟨r6, r⟩ := He.ba r
  obtain ⟨r7, r⟩ := He.ba r
  obtain ⟨r8, r⟩ := He.ba r
  obtain ⟨r9, r⟩ := He.ba r
  obtain ⟨r10, r⟩ := He.ba r
  obtain ⟨r11, r⟩ := He.ba r
  obtain ⟨r12, r13⟩ := He.ba r
  obtain ⟨fd, F⟩ := c.def_ nRef (d := dRef) rfl
  obtain ⟨oc, od, dV, kV, doc, pm, an, cdv, ct, osl, rfl, lk, hcd, hD, _⟩ := F.ex
  have hdV : dV = .none := by
    rcases hD with ⟨_, h⟩ | ⟨h, _⟩
    · exact h
    · exact absurd rfl h
  have lk2 : K.lookup (mad K "Refused" "__init__") = some ⟨oc, od, .func (PySem.W.fnOf dRef.name dRef.qual dRef.params dRef.body dRef.scope dV kV doc pm an cdv ct), osl⟩ := lk
  have hkV : kV = .none := by
    unfold kvNone at r13
    rw [lk2] at r13
    have r14 : isNone_ kV = true := r13
    clear r13 lk lk2 F
    cases kV with
    | none => rfl
    | _ => cases r14
  rw [hdV, hkV] at lk2
  exact ⟨He.glo_ok X G (c.fact 93 (f := .glo "Refused") rfl), excC_ok r1, He.eqO_ok r2, He.eqO_ok r3, He.eqO_ok r4, He.eqO_ok r5, He.eqO_ok r6, of_decide_eq_true r7, r8, of_decide_eq_true r9, of_decide_eq_true r10, r11, of_decide_eq_true r12,
    ⟨oc, od, doc, pm, an, cdv, ct, osl, ⟨135, 17, 135, 21⟩, ⟨135, 23, 135, 27⟩, ⟨136, 8, 136, 12⟩, ⟨136, 8, 136, 17⟩, ⟨136, 20, 136, 24⟩, ⟨136, 8, 136, 24⟩, lk2, hcd⟩⟩
theorem txt_ok {K : PySem.W.Frag} {h : Heap} {mg : Str → Option Value} (X : K.In h) (G : h.Ns mainGlobals mg) (x : SaysX K) : Txt K mg := by
  have c := x.d
  have e := x.e
  exact {
    g_kept_table := He.glo_ok X G (c.fact 0 (f := .glo "kept_table") rfl),
    g_difference_of := He.glo_ok X G (c.fact 1 (f := .glo "difference_of") rfl),
    g_written_change := He.glo_ok X G (c.fact 2 (f := .glo "written_change") rfl),
    g_steps_of := He.glo_ok X G (c.fact 3 (f := .glo "steps_of") rfl),
    g_reached_from := He.glo_ok X G (c.fact 4 (f := .glo "reached_from") rfl),
    g_visible_of := He.glo_ok X G (c.fact 5 (f := .glo "visible_of") rfl),
    g_demand := He.glo_ok X G (c.fact 6 (f := .glo "demand") rfl),
    g_told_row := He.glo_ok X G (c.fact 7 (f := .glo "told_row") rfl),
    g_told_line := He.glo_ok X G (c.fact 8 (f := .glo "told_line") rfl),
    g_lines_in := He.glo_ok X G (c.fact 9 (f := .glo "lines_in") rfl),
    g_pairs_in := He.glo_ok X G (c.fact 10 (f := .glo "pairs_in") rfl),
    g_answers := He.glo_ok X G (c.fact 11 (f := .glo "answers") rfl),
    g_Change := He.glo_ok X G (c.fact 12 (f := .glo "Change") rfl),
    cl_Change := He.cls_ok (c.fact 13 (f := .cls "Change") rfl),
    k_Change := He.mkr_ok (c.fact 14 (f := .mkr "Change") rfl),
    g_Difference := He.glo_ok X G (c.fact 15 (f := .glo "Difference") rfl),
    cl_Difference := He.cls_ok (c.fact 16 (f := .cls "Difference") rfl),
    k_Difference := He.mkr_ok (c.fact 17 (f := .mkr "Difference") rfl),
    g_Order := He.glo_ok X G (c.fact 18 (f := .glo "Order") rfl),
    cl_Order := He.cls_ok (c.fact 19 (f := .cls "Order") rfl),
    k_Order := He.mkr_ok (c.fact 20 (f := .mkr "Order") rfl),
    g_Session := He.glo_ok X G (c.fact 21 (f := .glo "Session") rfl),
    cl_Session := He.cls_ok (c.fact 22 (f := .cls "Session") rfl),
    k_Session := He.mkr_ok (c.fact 23 (f := .mkr "Session") rfl),
    m_Change_chains := He.meth_ok (c.fact 24 (f := .meth "Change" "chains") rfl),
    m_Change_dependencies := He.meth_ok (c.fact 25 (f := .meth "Change" "dependencies") rfl),
    a_Change_number := He.noat_ok (c.fact 26 (f := .noat "Change" "number") rfl),
    a_Change_hunks := He.noat_ok (c.fact 27 (f := .noat "Change" "hunks") rfl),
    a_Change_deleted := He.noat_ok (c.fact 28 (f := .noat "Change" "deleted") rfl),
    a_Change_lines := He.noat_ok (c.fact 29 (f := .noat "Change" "lines") rfl),
    a_Difference_deleted := He.noat_ok (c.fact 30 (f := .noat "Difference" "deleted") rfl),
    a_Difference_inserted := He.noat_ok (c.fact 31 (f := .noat "Difference" "inserted") rfl),
    m_Order_precedes := He.meth_ok (c.fact 32 (f := .meth "Order" "precedes") rfl),
    m_Order_next_of := He.meth_ok (c.fact 33 (f := .meth "Order" "next_of") rfl),
    m_Order_conflicts := He.meth_ok (c.fact 34 (f := .meth "Order" "conflicts") rfl),
    a_Order_reached := He.noat_ok (c.fact 35 (f := .noat "Order" "reached") rfl),
    a_Order_lines := He.noat_ok (c.fact 36 (f := .noat "Order" "lines") rfl),
    m_Session_ask_branch := He.meth_ok (c.fact 37 (f := .meth "Session" "ask_branch") rfl),
    m_Session_ask_change := He.meth_ok (c.fact 38 (f := .meth "Session" "ask_change") rfl),
    m_Session_ask_room := He.meth_ok (c.fact 39 (f := .meth "Session" "ask_room") rfl),
    m_Session_order := He.meth_ok (c.fact 40 (f := .meth "Session" "order") rfl),
    m_Session_line_at := He.meth_ok (c.fact 41 (f := .meth "Session" "line_at") rfl),
    m_Session_add := He.meth_ok (c.fact 42 (f := .meth "Session" "add") rfl),
    m_Session_record := He.meth_ok (c.fact 43 (f := .meth "Session" "record") rfl),
    m_Session_required := He.meth_ok (c.fact 44 (f := .meth "Session" "required") rfl),
    m_Session_fork := He.meth_ok (c.fact 45 (f := .meth "Session" "fork") rfl),
    m_Session_write := He.meth_ok (c.fact 46 (f := .meth "Session" "write") rfl),
    m_Session_delete := He.meth_ok (c.fact 47 (f := .meth "Session" "delete") rfl),
    m_Session_apply := He.meth_ok (c.fact 48 (f := .meth "Session" "apply") rfl),
    m_Session_merge := He.meth_ok (c.fact 49 (f := .meth "Session" "merge") rfl),
    m_Session_revert := He.meth_ok (c.fact 50 (f := .meth "Session" "revert") rfl),
    m_Session_text_order := He.meth_ok (c.fact 51 (f := .meth "Session" "text_order") rfl),
    m_Session_show := He.meth_ok (c.fact 52 (f := .meth "Session" "show") rfl),
    m_Session_shown_lines := He.meth_ok (c.fact 53 (f := .meth "Session" "shown_lines") rfl),
    m_Session_change := He.meth_ok (c.fact 54 (f := .meth "Session" "change") rfl),
    m_Session_requirements := He.meth_ok (c.fact 55 (f := .meth "Session" "requirements") rfl),
    m_Session_apply_all := He.meth_ok (c.fact 56 (f := .meth "Session" "apply_all") rfl),
    m_Session_revert_all := He.meth_ok (c.fact 57 (f := .meth "Session" "revert_all") rfl),
    m_Session_explain := He.meth_ok (c.fact 58 (f := .meth "Session" "explain") rfl),
    m_Session_blame := He.meth_ok (c.fact 59 (f := .meth "Session" "blame") rfl),
    m_Session_of_making := He.meth_ok (c.fact 60 (f := .meth "Session" "of_making") rfl),
    m_Session_of_asking := He.meth_ok (c.fact 61 (f := .meth "Session" "of_asking") rfl),
    m_Session_answer := He.meth_ok (c.fact 62 (f := .meth "Session" "answer") rfl),
    a_Session_made := He.noat_ok (c.fact 63 (f := .noat "Session" "made") rfl),
    a_Session_branches := He.noat_ok (c.fact 64 (f := .noat "Session" "branches") rfl),
    n_len := He.free_ok X G (c.fact 65 (f := .free "len") rfl),
    n_list := He.free_ok X G (c.fact 66 (f := .free "list") rfl),
    n_tuple := He.free_ok X G (c.fact 67 (f := .free "tuple") rfl),
    n_set := He.free_ok X G (c.fact 68 (f := .free "set") rfl),
    n_sorted := He.free_ok X G (c.fact 69 (f := .free "sorted") rfl),
    n_max := He.free_ok X G (c.fact 70 (f := .free "max") rfl),
    n_any := He.free_ok X G (c.fact 71 (f := .free "any") rfl),
    n_all := He.free_ok X G (c.fact 72 (f := .free "all") rfl),
    n_range := He.free_ok X G (c.fact 73 (f := .free "range") rfl),
    n_enumerate := He.free_ok X G (c.fact 74 (f := .free "enumerate") rfl),
    n_zip := He.free_ok X G (c.fact 75 (f := .free "zip") rfl),
    i_MOST_BRANCHES := He.int_ok X G (c.fact 76 (f := .int "MOST_BRANCHES" (5)) rfl),
    i_MOST_CHANGES := He.int_ok X G (c.fact 77 (f := .int "MOST_CHANGES" (12)) rfl),
    i_MOST_LINES := He.int_ok X G (c.fact 78 (f := .int "MOST_LINES" (8)) rfl),
    i_MOST_BYTES := He.int_ok X G (c.fact 79 (f := .int "MOST_BYTES" (12)) rfl),
    i_LIMITS := He.int_ok X G (c.fact 80 (f := .int "LIMITS" (-1)) rfl),
    i_NO_BRANCH := He.int_ok X G (c.fact 81 (f := .int "NO_BRANCH" (-2)) rfl),
    i_NOT_THERE := He.int_ok X G (c.fact 82 (f := .int "NOT_THERE" (-3)) rfl),
    i_DEPENDENCIES := He.int_ok X G (c.fact 83 (f := .int "DEPENDENCIES" (-4)) rfl),
    i_CONFLICTS := He.int_ok X G (c.fact 84 (f := .int "CONFLICTS" (-5)) rfl),
    i_NOTHING := He.int_ok X G (c.fact 85 (f := .int "NOTHING" (-6)) rfl),
    i_TOO_MANY := He.int_ok X G (c.fact 86 (f := .int "TOO_MANY" (-8)) rfl),
    i_VISIBLE := He.int_ok X G (c.fact 87 (f := .int "VISIBLE" (1)) rfl),
    i_AWAY := He.int_ok X G (c.fact 88 (f := .int "AWAY" (2)) rfl),
    g_START := He.glo_ok X G (c.fact 89 (f := .glo "START") rfl),
    t_START := fun H => He.tupB_ok (vs := [.int (-1), .int (0)]) (x_START e) H,
    g_END := He.glo_ok X G (c.fact 90 (f := .glo "END") rfl),
    t_END := fun H => He.tupB_ok (vs := [.int (-2), .int (0)]) (x_END e) H,
    g_NUMBERS := He.glo_ok X G (c.fact 91 (f := .glo "NUMBERS") rfl),
    t_NUMBERS := fun H => He.tupB_ok (vs := [.int (1), .int (2), .int (1), .int (2), .int (2), .int (2), .int (1), .int (1), .int (1), .int (1), .int (2), .int (2), .int (3), .int (1)]) (x_NUMBERS e) H,
    g_WITH_LIST := He.glo_ok X G (c.fact 92 (f := .glo "WITH_LIST") rfl),
    t_WITH_LIST := fun H => He.tupB_ok (vs := [.int (1), .int (2)]) (x_WITH_LIST e) H,
    refx := ref_ok X G c e,
    F_Change_init := c.def_ 0 (d := ⟨("Change", some "__init__"), "__init__", "Change.__init__", defArgs (inClass (topS 3) 0), defBody (inClass (topS 3) 0), defScope (inClass (topS 3) 0), [], []⟩) rfl,
    F_Change_chains := c.def_ 1 (d := ⟨("Change", some "chains"), "chains", "Change.chains", defArgs (inClass (topS 3) 1), defBody (inClass (topS 3) 1), defScope (inClass (topS 3) 1), [], []⟩) rfl,
    F_Change_dependencies := c.def_ 2 (d := ⟨("Change", some "dependencies"), "dependencies", "Change.dependencies", defArgs (inClass (topS 3) 2), defBody (inClass (topS 3) 2), defScope (inClass (topS 3) 2), [], []⟩) rfl,
    F_kept_table := c.def_ 3 (d := ⟨("kept_table", none), "kept_table", "kept_table", defArgs (topS 4), defBody (topS 4), defScope (topS 4), [], []⟩) rfl,
    F_Difference_init := c.def_ 4 (d := ⟨("Difference", some "__init__"), "__init__", "Difference.__init__", defArgs (inClass (topS 5) 0), defBody (inClass (topS 5) 0), defScope (inClass (topS 5) 0), [], []⟩) rfl,
    F_difference_of := c.def_ 5 (d := ⟨("difference_of", none), "difference_of", "difference_of", defArgs (topS 6), defBody (topS 6), defScope (topS 6), [], []⟩) rfl,
    F_written_change := c.def_ 6 (d := ⟨("written_change", none), "written_change", "written_change", defArgs (topS 7), defBody (topS 7), defScope (topS 7), [], []⟩) rfl,
    F_steps_of := c.def_ 7 (d := ⟨("steps_of", none), "steps_of", "steps_of", defArgs (topS 9), defBody (topS 9), defScope (topS 9), [], []⟩) rfl,
    F_reached_from := c.def_ 8 (d := ⟨("reached_from", none), "reached_from", "reached_from", defArgs (topS 10), defBody (topS 10), defScope (topS 10), [], []⟩) rfl,
    F_visible_of := c.def_ 9 (d := ⟨("visible_of", none), "visible_of", "visible_of", defArgs (topS 11), defBody (topS 11), defScope (topS 11), [], []⟩) rfl,
    F_Order_init := c.def_ 10 (d := ⟨("Order", some "__init__"), "__init__", "Order.__init__", defArgs (inClass (topS 12) 0), defBody (inClass (topS 12) 0), defScope (inClass (topS 12) 0), [], []⟩) rfl,
    F_Order_precedes := c.def_ 11 (d := ⟨("Order", some "precedes"), "precedes", "Order.precedes", defArgs (inClass (topS 12) 1), defBody (inClass (topS 12) 1), defScope (inClass (topS 12) 1), [], []⟩) rfl,
    F_Order_next_of := c.def_ 12 (d := ⟨("Order", some "next_of"), "next_of", "Order.next_of", defArgs (inClass (topS 12) 2), defBody (inClass (topS 12) 2), defScope (inClass (topS 12) 2), [], []⟩) rfl,
    F_Order_conflicts := c.def_ 13 (d := ⟨("Order", some "conflicts"), "conflicts", "Order.conflicts", defArgs (inClass (topS 12) 3), defBody (inClass (topS 12) 3), defScope (inClass (topS 12) 3), [], []⟩) rfl,
    F_demand := c.def_ 14 (d := ⟨("demand", none), "demand", "demand", defArgs (topS 30), defBody (topS 30), defScope (topS 30), [], []⟩) rfl,
    F_told_row := c.def_ 15 (d := ⟨("told_row", none), "told_row", "told_row", defArgs (topS 31), defBody (topS 31), defScope (topS 31), [], []⟩) rfl,
    F_told_line := c.def_ 16 (d := ⟨("told_line", none), "told_line", "told_line", defArgs (topS 32), defBody (topS 32), defScope (topS 32), [], []⟩) rfl,
    F_lines_in := c.def_ 17 (d := ⟨("lines_in", none), "lines_in", "lines_in", defArgs (topS 33), defBody (topS 33), defScope (topS 33), [], []⟩) rfl,
    F_pairs_in := c.def_ 18 (d := ⟨("pairs_in", none), "pairs_in", "pairs_in", defArgs (topS 34), defBody (topS 34), defScope (topS 34), [], []⟩) rfl,
    F_Session_init := c.def_ 19 (d := ⟨("Session", some "__init__"), "__init__", "Session.__init__", defArgs (inClass (topS 35) 0), defBody (inClass (topS 35) 0), defScope (inClass (topS 35) 0), [], []⟩) rfl,
    F_Session_ask_branch := c.def_ 20 (d := ⟨("Session", some "ask_branch"), "ask_branch", "Session.ask_branch", defArgs (inClass (topS 35) 1), defBody (inClass (topS 35) 1), defScope (inClass (topS 35) 1), [], []⟩) rfl,
    F_Session_ask_change := c.def_ 21 (d := ⟨("Session", some "ask_change"), "ask_change", "Session.ask_change", defArgs (inClass (topS 35) 2), defBody (inClass (topS 35) 2), defScope (inClass (topS 35) 2), [], []⟩) rfl,
    F_Session_ask_room := c.def_ 22 (d := ⟨("Session", some "ask_room"), "ask_room", "Session.ask_room", defArgs (inClass (topS 35) 3), defBody (inClass (topS 35) 3), defScope (inClass (topS 35) 3), [], []⟩) rfl,
    F_Session_order := c.def_ 23 (d := ⟨("Session", some "order"), "order", "Session.order", defArgs (inClass (topS 35) 4), defBody (inClass (topS 35) 4), defScope (inClass (topS 35) 4), [], []⟩) rfl,
    F_Session_line_at := c.def_ 24 (d := ⟨("Session", some "line_at"), "line_at", "Session.line_at", defArgs (inClass (topS 35) 5), defBody (inClass (topS 35) 5), defScope (inClass (topS 35) 5), [], []⟩) rfl,
    F_Session_add := c.def_ 25 (d := ⟨("Session", some "add"), "add", "Session.add", defArgs (inClass (topS 35) 6), defBody (inClass (topS 35) 6), defScope (inClass (topS 35) 6), [], []⟩) rfl,
    F_Session_record := c.def_ 26 (d := ⟨("Session", some "record"), "record", "Session.record", defArgs (inClass (topS 35) 7), defBody (inClass (topS 35) 7), defScope (inClass (topS 35) 7), [], []⟩) rfl,
    F_Session_required := c.def_ 27 (d := ⟨("Session", some "required"), "required", "Session.required", defArgs (inClass (topS 35) 8), defBody (inClass (topS 35) 8), defScope (inClass (topS 35) 8), [], []⟩) rfl,
    F_Session_fork := c.def_ 28 (d := ⟨("Session", some "fork"), "fork", "Session.fork", defArgs (inClass (topS 35) 9), defBody (inClass (topS 35) 9), defScope (inClass (topS 35) 9), [], []⟩) rfl,
    F_Session_write := c.def_ 29 (d := ⟨("Session", some "write"), "write", "Session.write", defArgs (inClass (topS 35) 10), defBody (inClass (topS 35) 10), defScope (inClass (topS 35) 10), [], []⟩) rfl,
    F_Session_delete := c.def_ 30 (d := ⟨("Session", some "delete"), "delete", "Session.delete", defArgs (inClass (topS 35) 11), defBody (inClass (topS 35) 11), defScope (inClass (topS 35) 11), [], []⟩) rfl,
    F_Session_apply := c.def_ 31 (d := ⟨("Session", some "apply"), "apply", "Session.apply", defArgs (inClass (topS 35) 12), defBody (inClass (topS 35) 12), defScope (inClass (topS 35) 12), [], []⟩) rfl,
    F_Session_merge := c.def_ 32 (d := ⟨("Session", some "merge"), "merge", "Session.merge", defArgs (inClass (topS 35) 13), defBody (inClass (topS 35) 13), defScope (inClass (topS 35) 13), [], []⟩) rfl,
    F_Session_revert := c.def_ 33 (d := ⟨("Session", some "revert"), "revert", "Session.revert", defArgs (inClass (topS 35) 14), defBody (inClass (topS 35) 14), defScope (inClass (topS 35) 14), [], []⟩) rfl,
    F_Session_text_order := c.def_ 34 (d := ⟨("Session", some "text_order"), "text_order", "Session.text_order", defArgs (inClass (topS 35) 15), defBody (inClass (topS 35) 15), defScope (inClass (topS 35) 15), [], []⟩) rfl,
    F_Session_show := c.def_ 35 (d := ⟨("Session", some "show"), "show", "Session.show", defArgs (inClass (topS 35) 16), defBody (inClass (topS 35) 16), defScope (inClass (topS 35) 16), [], []⟩) rfl,
    F_Session_shown_lines := c.def_ 36 (d := ⟨("Session", some "shown_lines"), "shown_lines", "Session.shown_lines", defArgs (inClass (topS 35) 17), defBody (inClass (topS 35) 17), defScope (inClass (topS 35) 17), [], []⟩) rfl,
    F_Session_change := c.def_ 37 (d := ⟨("Session", some "change"), "change", "Session.change", defArgs (inClass (topS 35) 18), defBody (inClass (topS 35) 18), defScope (inClass (topS 35) 18), [], []⟩) rfl,
    F_Session_requirements := c.def_ 38 (d := ⟨("Session", some "requirements"), "requirements", "Session.requirements", defArgs (inClass (topS 35) 19), defBody (inClass (topS 35) 19), defScope (inClass (topS 35) 19), [], []⟩) rfl,
    F_Session_apply_all := c.def_ 39 (d := ⟨("Session", some "apply_all"), "apply_all", "Session.apply_all", defArgs (inClass (topS 35) 20), defBody (inClass (topS 35) 20), defScope (inClass (topS 35) 20), [], []⟩) rfl,
    F_Session_revert_all := c.def_ 40 (d := ⟨("Session", some "revert_all"), "revert_all", "Session.revert_all", defArgs (inClass (topS 35) 21), defBody (inClass (topS 35) 21), defScope (inClass (topS 35) 21), [], []⟩) rfl,
    F_Session_explain := c.def_ 41 (d := ⟨("Session", some "explain"), "explain", "Session.explain", defArgs (inClass (topS 35) 22), defBody (inClass (topS 35) 22), defScope (inClass (topS 35) 22), [], []⟩) rfl,
    F_Session_blame := c.def_ 42 (d := ⟨("Session", some "blame"), "blame", "Session.blame", defArgs (inClass (topS 35) 23), defBody (inClass (topS 35) 23), defScope (inClass (topS 35) 23), [], []⟩) rfl,
    F_Session_of_making := c.def_ 43 (d := ⟨("Session", some "of_making"), "of_making", "Session.of_making", defArgs (inClass (topS 35) 24), defBody (inClass (topS 35) 24), defScope (inClass (topS 35) 24), [], []⟩) rfl,
    F_Session_of_asking := c.def_ 44 (d := ⟨("Session", some "of_asking"), "of_asking", "Session.of_asking", defArgs (inClass (topS 35) 25), defBody (inClass (topS 35) 25), defScope (inClass (topS 35) 25), [], []⟩) rfl,
    F_Session_answer := c.def_ 45 (d := ⟨("Session", some "answer"), "answer", "Session.answer", defArgs (inClass (topS 35) 26), defBody (inClass (topS 35) 26), defScope (inClass (topS 35) 26), [], []⟩) rfl,
    F_answers := c.def_ 46 (d := ⟨("answers", none), "answers", "answers", defArgs (topS 36), defBody (topS 36), defScope (topS 36), [], []⟩) rfl }
end Lg

-- ==== LgRun ====
set_option Elab.async false
set_option linter.all false
set_option maxRecDepth 100000
set_option maxHeartbeats 0
/-! LgRun: the head's run. -/
namespace Lg
open PySem PySem.Spec PyProof.Rows L2
abbrev Rw : PySem.W.OpenSpec := PySem.Challenge.rw_linegrafts_s01_answers
abbrev qv : Program := PySem.W.view Rw.prog [36]
def loose0 : List Str := ["__name__", "START", "END", "Change", "kept_table", "Difference", "difference_of", "written_change", "steps_of", "reached_from", "visible_of", "Order"]
def loose1 : List Str := ["MOST_BRANCHES", "MOST_CHANGES", "MOST_LINES", "MOST_BYTES", "LIMITS", "NO_BRANCH", "NOT_THERE", "DEPENDENCIES", "CONFLICTS", "NOTHING", "TOO_MANY", "VISIBLE"]
def loose2 : List Str := ["AWAY", "NUMBERS", "WITH_LIST", "Refused", "demand", "told_row", "told_line", "lines_in", "pairs_in", "Session"]
def loose : List Str := loose0 ++ loose1 ++ loose2
abbrev hk : PySem.W.Hook := hookX 5
def ob (s : PySem.W.SharedT) : He.AlD := obsXG 5 (HeadRun.getT s)
theorem ob_eq (s : PySem.W.SharedT) : ob s = hk.obs s.abs := obsXG_eq (HeadRun.getT_eq s)
theorem run (w : World) : HeadRun.RunEqS Rw qv hk ob 6000 loose w := by
  intro os
  kernel_rfl
end Lg

-- ==== LgEnd ====
set_option Elab.async false
set_option linter.all false
set_option maxRecDepth 100000
set_option maxHeartbeats 0
/-! LgEnd: the end. -/
namespace Lg
open PySem PySem.Spec PyProof.Rows L2
open PySem.W (Codec OpenSpec)
/-- the row's walk, the written part told by the head's Hook -/
theorem walk_specE {r : OpenSpec} {k : Nat} {q : Program} {loose : List Str} {XP : (Str → Option Value) → Heap → Prop} {YP : World → Heap → Prop} {d : DefRec} {ps : List Str}
    (hwell : r.wellSaid = true) (hlen : r.args.length = ps.length) (hr : Room k callerA)
    (F : ∀ (w : World) (mg : Str → Option Value) (fa : Addr) (h : Heap), YP w h → h.Ns mainGlobals mg → mg d.name = some (.ref fa) →
      ∃ (K : PySem.W.Frag) (fd : FuncData) (sp : Sp), K.In h ∧ (∀ (s : Shared) (us : List Value), us.length = ps.length → BindsTo s fd ⟨us, []⟩ (ps.zip us)) ∧
        (∀ base : Heap, K.In base → base.Ns mainGlobals mg → FnOk r.prog w K mg base CX0 k fa fd ps sp) ∧
        ∀ (H : Hp) (xs : List V) (a : Codec.denoteAll r.args), OnlyF H → Codec.withinAll r.args a = true → Codec.app r.args r.asked a = true → DwAll K H xs (Codec.encAll r.args a) →
          sp xs H (fun v H' => Dw K H' v (r.ret.enc (Codec.app r.args r.f a))) fun _ _ _ => False) :
    PySem.W.WalkOS q loose XP YP r d [] (fun f vs => PySem.call f vs) := by
  intro w s₀ s₁ mg mb G Y fa o pm cd doc dV kV ho hd hcd hD hmg hg args vals as hpre hlay hrd hwl hlo
  obtain ⟨a, e1, e2⟩ := PySem.W.os_pre_some hpre
  obtain ⟨e3, hwi⟩ := Codec.encAll_of_decAll r.args args a e1
  subst e3
  obtain ⟨K, fd, sp, KX, hb, hF, hsp⟩ := F w mg fa _ Y G.T.g hmg
  refine PySem.W.enter_call (codeAny_mono (spec_call (R := []) (cl := classAt s₀.heap) (d0 := r.ret.enc (Codec.app r.args r.f a)) KX G.T.g G.T.b G.T.builtins G.T.nolimit hg hwl (pl_encAll _ _) (layable_weight hlay) hr hF hb (by rw [encAll_len]; exact hlen)
    (fun H xs hO hS => hsp H xs a hO hwi e2 hS) fun H e s' z => z) fun r' s' hq => ?_)
  obtain ⟨u, as', rfl, h1, h2, h3, h4⟩ := hq
  exact ⟨.inl ⟨u, _, as', rfl, fun _ => rfl, h1, (OpenSpec.post_iff hwell hwi _ _).mpr rfl, fun z => Bool.noConfusion (show false = true from z)⟩, h2, h3, h4⟩
end Lg
open PySem PySem.W PySem.Calls PyProof.Rows
theorem PySem.Challenge.cw_linegrafts_s01_answers_holds : PySem.Challenge.rw_linegrafts_s01_answers.Holds := by
  w_on
  refine HeadRun.head_spec (r := Lg.Rw) (q := Lg.qv) (H := Lg.hk) (ob := Lg.ob) (M := 6000) (loose := Lg.loose) (d := HeadRun.topDef Lg.Rw.prog 36) (kwd := []) Lg.ob_eq (by kernel_rfl) (fun s => by kernel_rfl) Lg.run (by kernel_rfl) (by kernel_rfl) (by kernel_rfl) PySem.W.os_shapes (by decide +kernel) (by decide +kernel) ⟨rfl, rfl, rfl, rfl, rfl, by decide +kernel⟩ ?hw ?hc
  case hw => exact ⟨[.list [.int 9, .int 0]], by decide +kernel, by decide +kernel⟩
  case hc =>
    refine Lg.walk_specE (k := 10) (ps := Lg.p_answers) (by decide +kernel) rfl ⟨rfl, by decide, by decide⟩ ?F
    intro w mg fa h Y G hmg0
    obtain ⟨K, KX, c⟩ := Y
    have hmg : mg ("answers" : PySem.Str) = some (.ref fa) := by
      have e : (HeadRun.topDef Lg.Rw.prog 36).name = ("answers" : PySem.Str) := by kernel_rfl
      rw [← e]
      exact hmg0
    have T := Lg.txt_ok KX G c
    have e := hmg.symm.trans T.g_answers
    cases e
    obtain ⟨fd, F⟩ := T.F_answers
    have b := L2.FunD.bindsA (ps := Lg.p_answers) F fun _ _ _ _ _ _ us hl => match us, hl with | [_], _ => rfl
    refine ⟨K, fd, Lg.spMain K, KX, fun s us hl => b s us hl, fun base _ _ => Lg.fn_answers T F, fun H xs a hO hwi hask hx => ?_⟩
    cases hx with
    | cons h1 h2 =>
      cases h2
      cases h1 with
      | lst hs ha =>
        have e := L2.ints_dw a.1 _ ha
        subst e
        exact ⟨_, a.1, rfl, hs, hask, fun H' r _ hr => .lst (L2.SqL.of hr) (L2.dw_ints _)⟩
