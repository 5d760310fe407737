import PyProof.Rows.All
import Wide.All
import OpenK.AllK
import Wide.FinOn
import Open.SpecLaws
import KE.OsGo
import HandS.ForSpec
import HandS.Dict
import HandS.SortKw
import KE.SortKeyHeap
import HandS.Lambda
import KE.KLam
import HandS.WordsDict
import HandS.Iter
import HandS.Comp
import HandS.ExcInit
import HandS.ExcField
import HandS.NoneIn
import HandS.CallSlots
import HandS.Flow
import HandS.Walk
import HandS.HeadHook1
import PySem.Challenge.RW_patternruns_s01_answers
set_option Elab.async false
set_option linter.all false
set_option maxRecDepth 100000
set_option maxHeartbeats 2000000
/-! ## PRmath -/
/-! Plain mathematics about the specification Hs10: the sort, the skip's state, the invariant of a state. -/
namespace G
open Hs10

/-! ### the order -/
def klt (x y : Nat × Nat) : Prop := x.1 < y.1 ∨ (x.1 = y.1 ∧ x.2 < y.2)
instance (x y : Nat × Nat) : Decidable (klt x y) := by unfold klt; infer_instance
def kless : List (Nat × Nat) → List (Nat × Nat) → Bool
  | [], _ => true
  | _ :: _, [] => false
  | x :: l, y :: m => if x = y then kless l m else decide (klt x y)
def key (p : List Taken) : List (Nat × Nat) := p.map fun t => (t.at_, t.stage)
theorem less_key : ∀ p q : List Taken, less p q = kless (key p) (key q)
  | [], _ => rfl
  | _ :: _, [] => rfl
  | x :: l, y :: m => by
    have ih := less_key l m
    show (if x.at_ = y.at_ ∧ x.stage = y.stage then less l m else decide (x.at_ < y.at_) || (x.at_ == y.at_ && decide (x.stage < y.stage))) =
      (if (x.at_, x.stage) = (y.at_, y.stage) then kless (key l) (key m) else decide (klt (x.at_, x.stage) (y.at_, y.stage)))
    by_cases h : x.at_ = y.at_ ∧ x.stage = y.stage
    · rw [if_pos h, if_pos (by rw [h.1, h.2]), ih]
    · rw [if_neg h, if_neg (by intro e; injection e with e1 e2; exact h ⟨e1, e2⟩)]
      unfold klt
      by_cases h1 : x.at_ < y.at_
      · simp [h1]
      · by_cases h2 : x.at_ = y.at_
        · simp [h2]
        · simp [h1, h2]
theorem kless_refl : ∀ a, kless a a = true
  | [] => rfl
  | x :: l => by
    show (if x = x then kless l l else _) = true
    rw [if_pos rfl]
    exact kless_refl l
theorem kless_total : ∀ a b, kless a b = true ∨ kless b a = true
  | [], _ => .inl rfl
  | _ :: _, [] => .inr rfl
  | x :: l, y :: m => by
    show (if x = y then kless l m else decide (klt x y)) = true ∨ (if y = x then kless m l else decide (klt y x)) = true
    by_cases h : x = y
    · rw [if_pos h, if_pos h.symm]
      exact kless_total l m
    · rw [if_neg h, if_neg (Ne.symm h)]
      simp only [decide_eq_true_eq]
      unfold klt
      have : x.1 ≠ y.1 ∨ x.2 ≠ y.2 := by
        rcases x with ⟨a, b⟩
        rcases y with ⟨c, d⟩
        by_cases e : a = c
        · right
          intro e2
          exact h (by simp_all)
        · exact .inl e
      omega
theorem kless_trans : ∀ {a b c}, kless a b = true → kless b c = true → kless a c = true
  | [], _, _, _, _ => rfl
  | _ :: _, [], _, h, _ => Bool.noConfusion (show false = true from h)
  | _ :: _, _ :: _, [], _, h => Bool.noConfusion (show false = true from h)
  | x :: l, y :: m, z :: n, h1, h2 => by
    have h1 : (if x = y then kless l m else decide (klt x y)) = true := h1
    have h2 : (if y = z then kless m n else decide (klt y z)) = true := h2
    show (if x = z then kless l n else decide (klt x z)) = true
    by_cases e1 : x = y
    · rw [if_pos e1] at h1
      by_cases e2 : y = z
      · rw [if_pos e2] at h2
        rw [if_pos (e1.trans e2)]
        exact kless_trans h1 h2
      · rw [if_neg e2] at h2
        rw [if_neg (by rw [e1]; exact e2), e1]
        exact h2
    · rw [if_neg e1, decide_eq_true_eq] at h1
      by_cases e2 : y = z
      · rw [if_neg (by rw [← e2]; exact e1), decide_eq_true_eq, ← e2]
        exact h1
      · rw [if_neg e2, decide_eq_true_eq] at h2
        have h3 : klt x z := by unfold klt at *; omega
        rw [if_neg (by intro e; subst e; unfold klt at *; omega), decide_eq_true_eq]
        exact h3
theorem kless_antisymm : ∀ {a b}, kless a b = true → kless b a = true → a = b
  | [], [], _, _ => rfl
  | [], _ :: _, _, h => Bool.noConfusion (show false = true from h)
  | _ :: _, [], h, _ => Bool.noConfusion (show false = true from h)
  | x :: l, y :: m, h1, h2 => by
    have h1 : (if x = y then kless l m else decide (klt x y)) = true := h1
    have h2 : (if y = x then kless m l else decide (klt y x)) = true := h2
    by_cases e : x = y
    · rw [if_pos e] at h1
      rw [if_pos e.symm] at h2
      rw [e, kless_antisymm h1 h2]
    · rw [if_neg e, decide_eq_true_eq] at h1
      rw [if_neg (Ne.symm e), decide_eq_true_eq] at h2
      unfold klt at *
      omega

/-! ### the sort -/
def rkey (r : Run) : List (Nat × Nat) := key r.path
theorem runLess_key (r q : Run) : runLess r q = kless (rkey r) (rkey q) := less_key _ _
def sortR (l : List Run) : List Run := l.foldr insertRun []
theorem insertRun_perm (x : Run) : ∀ l, (insertRun x l).Perm (x :: l)
  | [] => .refl _
  | y :: r => by
    show (if runLess x y = true then x :: y :: r else y :: insertRun x r).Perm _
    split
    · exact .refl _
    · exact ((insertRun_perm x r).cons y).trans (.swap x y r)
theorem sortR_perm : ∀ l, (sortR l).Perm l
  | [] => .refl _
  | x :: r => (insertRun_perm x (sortR r)).trans ((sortR_perm r).cons x)
abbrev Up (l : List Run) : Prop := l.Pairwise fun a b => runLess a b = true
theorem insertRun_up {x : Run} : ∀ {l}, Up l → Up (insertRun x l)
  | [], _ => by
    show Up [x]
    exact List.pairwise_singleton _ _
  | y :: r, h => by
    obtain ⟨h1, h2⟩ := List.pairwise_cons.mp h
    show Up (if runLess x y = true then x :: y :: r else y :: insertRun x r)
    split
    · rename_i c
      refine List.pairwise_cons.mpr ⟨fun z hz => ?_, h⟩
      rcases List.mem_cons.mp hz with e | e
      · rw [e]; exact c
      · rw [runLess_key] at c ⊢
        have := h1 z e
        rw [runLess_key] at this
        exact kless_trans c this
    · rename_i c
      refine List.pairwise_cons.mpr ⟨fun z hz => ?_, insertRun_up h2⟩
      rcases List.mem_cons.mp ((insertRun_perm x r).mem_iff.mp hz) with e | e
      · rw [e, runLess_key]
        rw [runLess_key] at c
        exact (kless_total _ _).resolve_right c
      · exact h1 z e
theorem sortR_up : ∀ l, Up (sortR l)
  | [] => .nil
  | x :: r => insertRun_up (sortR_up r)
abbrev KN (l : List Run) : Prop := (l.map rkey).Nodup
theorem KN.inj : ∀ {l : List Run}, KN l → ∀ {a b}, a ∈ l → b ∈ l → rkey a = rkey b → a = b
  | [], _, a, _, ha, _, _ => absurd ha (by simp)
  | _ :: r, h, a, b, ha, hb, e => by
    obtain ⟨h1, h2⟩ := List.nodup_cons.mp (show (rkey _ :: r.map rkey).Nodup from h)
    rcases List.mem_cons.mp ha with ea | ea <;> rcases List.mem_cons.mp hb with eb | eb
    · rw [ea, eb]
    · exact absurd (List.mem_map.mpr ⟨b, eb, by rw [← e, ea]⟩) h1
    · exact absurd (List.mem_map.mpr ⟨a, ea, by rw [e, eb]⟩) h1
    · exact KN.inj h2 ea eb e
theorem KN.perm {l m : List Run} (h : KN l) (p : l.Perm m) : KN m := (p.map rkey).nodup h
theorem KN.sub {l m : List Run} (h : KN m) (p : l.Sublist m) : KN l := h.sublist (p.map rkey)
/-- a list in order with the same members is the sorted one -/
theorem sort_is {l m : List Run} (h : KN l) (p : m.Perm l) (u : Up m) : m = sortR l :=
  List.Perm.eq_of_pairwise (le := fun a b => runLess a b = true) (fun a b ha hb e1 e2 => by
    rw [runLess_key] at e1 e2
    exact h.inj (p.mem_iff.mp ha) ((sortR_perm l).mem_iff.mp hb) (kless_antisymm e1 e2)) u (sortR_up l) (p.trans (sortR_perm l).symm)
theorem sortR_congr {l m : List Run} (h : KN l) (p : m.Perm l) : sortR m = sortR l := sort_is h ((sortR_perm m).trans p) (sortR_up m)
theorem insert_paths (x : Run) : ∀ l, (insertRun x l).map Run.path = insert_ x.path (l.map Run.path)
  | [] => rfl
  | y :: r => by
    show (if runLess x y = true then x :: y :: r else y :: insertRun x r).map Run.path = (if less x.path y.path = true then x.path :: y.path :: r.map Run.path else y.path :: insert_ x.path (r.map Run.path))
    show (if less x.path y.path = true then x :: y :: r else y :: insertRun x r).map Run.path = _
    split
    · rfl
    · rw [List.map_cons, insert_paths x r]
theorem sort_paths : ∀ l, (sortR l).map Run.path = sorted (l.map Run.path)
  | [] => rfl
  | x :: r => by
    show (insertRun x (sortR r)).map Run.path = insert_ x.path (sorted (r.map Run.path))
    rw [insert_paths, sort_paths r]

/-! ### the skip's state -/
structure Sk where
  way : Nat
  pivot : Nat
  shut : Nat
  begins : List Nat
def Sk.new (way pivot : Nat) : Sk := ⟨way, pivot, 0, []⟩
def Sk.isShut (k : Sk) (path : List Taken) : Bool := decide (first path ≤ k.shut) || k.begins.contains (first path)
def pivotEvent (pivot : Nat) : List Taken → Nat
  | [] => 0
  | y :: r => if y.stage + 1 = pivot then y.at_ else pivotEvent pivot r
def Sk.tell (k : Sk) (m : List Taken) : Sk :=
  if k.way = 1 then { k with shut := max k.shut (last m) }
  else if k.way = 2 then { k with begins := if k.begins.contains (first m) then k.begins else k.begins ++ [first m] }
  else if k.way = 3 then { k with shut := max k.shut (pivotEvent k.pivot m - 1) }
  else k
/-- the loop over the matches -/
def telling : Sk × List Run → List Run → Sk × List Run
  | s, [] => s
  | s, m :: r => if s.1.isShut m.path = true then telling s r else telling (s.1.tell m.path, s.2 ++ [m]) r
def SkOf (p : Pattern) (k : Sk) : Prop := k.way = p.skip ∧ p.skip ≤ 3 ∧ (p.skip = 3 → k.pivot = p.pivot + 1)
theorem pivot_find (p : Nat) : ∀ m : List Taken, pivotEvent (p + 1) m = match m.find? fun y => y.stage == p with
    | some y => y.at_
    | none => 0
  | [] => rfl
  | y :: r => by
    show (if y.stage + 1 = p + 1 then y.at_ else pivotEvent (p + 1) r) = _
    rw [List.find?_cons]
    by_cases h : y.stage = p
    · rw [if_pos (by omega)]
      simp [h]
    · rw [if_neg (by omega), pivot_find p r]
      have : (y.stage == p) = false := by simpa using h
      rw [this]
theorem SkOf.tell {p : Pattern} {k : Sk} (h : SkOf p k) (m : List Taken) : SkOf p (k.tell m) := by
  obtain ⟨h1, h2, h3⟩ := h
  unfold Sk.tell SkOf
  split
  · exact ⟨h1, h2, h3⟩
  · split
    · exact ⟨h1, h2, h3⟩
    · split
      · exact ⟨h1, h2, h3⟩
      · exact ⟨h1, h2, h3⟩
theorem tell_shut {p : Pattern} {k : Sk} (h : SkOf p k) (m o : List Taken) : (k.tell m).isShut o = (k.isShut o || shuts p m o) := by
  obtain ⟨h1, h2, h3⟩ := h
  have hc : p.skip = 0 ∨ p.skip = 1 ∨ p.skip = 2 ∨ p.skip = 3 := by omega
  unfold Sk.tell Sk.isShut shuts
  rcases hc with e | e | e | e
  · rw [e] at h1
    simp [h1, e]
  · rw [e] at h1
    rw [if_pos h1, e]
    show (decide (first o ≤ max k.shut (last m)) || k.begins.contains (first o)) = (decide (first o ≤ k.shut) || k.begins.contains (first o) || decide (first o ≤ last m))
    cases k.begins.contains (first o)
    · rw [Bool.or_false, Bool.or_false, ← Bool.decide_or]
      congr 1
      apply propext
      omega
    · simp
  · rw [e] at h1
    rw [if_neg (by omega), if_pos h1, e]
    show (decide (first o ≤ k.shut) || (if k.begins.contains (first m) = true then k.begins else k.begins ++ [first m]).contains (first o)) = (decide (first o ≤ k.shut) || k.begins.contains (first o) || (first o == first m))
    rw [Bool.or_assoc]
    congr 1
    split
    · rename_i c
      by_cases q : first o = first m
      · rw [q, c]; rfl
      · have : (first o == first m) = false := by simpa using q
        rw [this, Bool.or_false]
    · rw [List.contains_append]
      congr 1
      simp only [List.contains_cons, List.contains_nil, Bool.or_false]
  · rw [e] at h1
    rw [if_neg (by omega), if_neg (by omega), if_pos h1, e, h3 e]
    show (decide (first o ≤ max k.shut (pivotEvent (p.pivot + 1) m - 1)) || k.begins.contains (first o)) = (decide (first o ≤ k.shut) || k.begins.contains (first o) || (match m.find? fun y => y.stage == p.pivot with
      | some y => decide (first o < y.at_)
      | none => false))
    rw [pivot_find]
    cases k.begins.contains (first o)
    · rw [Bool.or_false, Bool.or_false]
      cases m.find? fun y => y.stage == p.pivot with
      | none =>
        rw [Bool.or_false]
        congr 1
        apply propext
        show first o ≤ max k.shut (0 - 1) ↔ _
        omega
      | some y =>
        show decide (first o ≤ max k.shut (y.at_ - 1)) = (decide (first o ≤ k.shut) || decide (first o < y.at_))
        rw [← Bool.decide_or]
        congr 1
        apply propext
        omega
    · simp
/-- what is told behind the loop, and what the skip shuts then -/
theorem telling_is {p : Pattern} : ∀ (ms : List Run) (k : Sk) (told : List Run) (k0 : Sk), SkOf p k → (∀ o, k.isShut o = (k0.isShut o || (told.map Run.path).any fun x => shuts p x o)) → (∀ m ∈ ms, k0.isShut m.path = false) →
    (telling (k, told) ms).2.map Run.path = chosen p (told.map Run.path) (ms.map Run.path) ∧ SkOf p (telling (k, told) ms).1 ∧
    (∀ o, (telling (k, told) ms).1.isShut o = (k0.isShut o || ((telling (k, told) ms).2.map Run.path).any fun x => shuts p x o))
  | [], k, told, k0, h, e, _ => ⟨rfl, h, e⟩
  | m :: r, k, told, k0, h, e, c => by
    have hm : k.isShut m.path = (told.map Run.path).any fun x => shuts p x m.path := by
      rw [e, c m (List.mem_cons_self ..), Bool.false_or]
    have cr : ∀ x ∈ r, k0.isShut x.path = false := fun x hx => c x (List.mem_cons_of_mem _ hx)
    show ((if k.isShut m.path = true then telling (k, told) r else telling (k.tell m.path, told ++ [m]) r).2.map Run.path = (if ((told.map Run.path).any fun x => shuts p x m.path) = true then chosen p (told.map Run.path) (r.map Run.path) else chosen p (told.map Run.path ++ [m.path]) (r.map Run.path))) ∧
      SkOf p (if k.isShut m.path = true then telling (k, told) r else telling (k.tell m.path, told ++ [m]) r).1 ∧
      (∀ o, (if k.isShut m.path = true then telling (k, told) r else telling (k.tell m.path, told ++ [m]) r).1.isShut o = (k0.isShut o || ((if k.isShut m.path = true then telling (k, told) r else telling (k.tell m.path, told ++ [m]) r).2.map Run.path).any fun x => shuts p x o))
    rw [← hm]
    by_cases q : k.isShut m.path = true
    · rw [if_pos q, if_pos q]
      exact telling_is r k told k0 h e cr
    · rw [if_neg q, if_neg q]
      have := telling_is r (k.tell m.path) (told ++ [m]) k0 (h.tell _) (fun o => by
        rw [tell_shut h, e, List.map_append, List.any_append]
        simp [Bool.or_assoc]) cr
      rw [List.map_append] at this
      exact this
theorem telling_mem : ∀ (ms : List Run) (k : Sk) (told : List Run) (r : Run), r ∈ (telling (k, told) ms).2 → r ∈ told ∨ r ∈ ms
  | [], _, _, _, h => .inl h
  | m :: l, k, told, r, h => by
    have h : r ∈ (if k.isShut m.path = true then telling (k, told) l else telling (k.tell m.path, told ++ [m]) l).2 := h
    split at h
    · exact (telling_mem l _ _ r h).imp_right fun z => List.mem_cons_of_mem _ z
    · rcases telling_mem l _ _ r h with z | z
      · rcases List.mem_append.mp z with y | y
        · exact .inl y
        · exact .inr (by rw [List.mem_singleton.mp y]; exact List.mem_cons_self ..)
      · exact .inr (List.mem_cons_of_mem _ z)
theorem telling_len : ∀ (ms : List Run) (k : Sk) (told : List Run), (telling (k, told) ms).2.length ≤ told.length + ms.length
  | [], _, _ => Nat.le_refl _
  | m :: l, k, told => by
    show (if k.isShut m.path = true then telling (k, told) l else telling (k.tell m.path, told ++ [m]) l).2.length ≤ told.length + (l.length + 1)
    split
    · have := telling_len l k told
      omega
    · have := telling_len l (k.tell m.path) (told ++ [m])
      rw [List.length_append, List.length_singleton] at this
      omega

/-! ### the invariant of a state -/
structure RunOk (p : Pattern) (count : Nat) (r : Run) : Prop where
  ne : r.path ≠ []
  ats : ∀ t ∈ r.path, t.at_ ≤ count ∧ t.stage < p.stages.length
  len : r.path.length ≤ count
  op : r.open_.Sublist (List.range p.stages.length)
structure StagesOk (p : Pattern) : Prop where
  one : ∀ x ∈ p.stages, x.sort ≤ 4 ∧ x.follow ≤ 2 ∧ x.inner ≤ 2 ∧ x.test ≤ 6
  low : 1 ≤ p.stages.length
  high : p.stages.length ≤ 8
structure StOk (s : St) : Prop where
  st : StagesOk s.pattern
  runs : ∀ r ∈ s.runs, RunOk s.pattern s.count r
  kn : KN s.runs
  few : s.runs.length ≤ 300
structure Rel (s : St) (k : Sk) : Prop where
  ok : StOk s
  sk : SkOf s.pattern k
  clear : ∀ r ∈ s.runs, k.isShut r.path = false
  to : k.shut ≤ s.count
  bs : ∀ b ∈ k.begins, b ≤ s.count
  bl : k.begins.length ≤ 300 * s.count
theorem next_sub (p : Pattern) (a : Nat) : (nextOnes p a).Sublist (List.range p.stages.length) := List.filter_sublist
theorem firsts_sub (p : Pattern) : (firstOnes p).Sublist (List.range p.stages.length) := List.filter_sublist
theorem RunOk.mono {p : Pattern} {c d : Nat} {r : Run} (h : RunOk p c r) (hc : c ≤ d) : RunOk p d r :=
  ⟨h.ne, fun t ht => ⟨Nat.le_trans (h.ats t ht).1 hc, (h.ats t ht).2⟩, Nat.le_trans h.len hc, h.op⟩
theorem RunOk.passed {p : Pattern} {c : Nat} {r : Run} (h : RunOk p c r) (e : Ev) : RunOk p c (passed p e r) := by
  refine ⟨h.ne, h.ats, h.len, ?_⟩
  show (if inTime p r.path e = false then [] else r.open_.filter (staysOpen p e r)).Sublist _
  split
  · exact List.nil_sublist _
  · exact List.filter_sublist.trans h.op
theorem mem_range_of_sub {l : List Nat} {n t : Nat} (h : l.Sublist (List.range n)) (ht : t ∈ l) : t < n := List.mem_range.mp (h.subset ht)
theorem RunOk.taking {p : Pattern} {c t i : Nat} {path : List Taken} {e : Ev} (h1 : ∀ t ∈ path, t.at_ ≤ c ∧ t.stage < p.stages.length) (h2 : path.length ≤ c) (ht : t < p.stages.length) (hi : i = c + 1) : RunOk p (c + 1) (taking p path t i e) := by
  refine ⟨by show path ++ [_] ≠ []; simp, fun y hy => ?_, by show (path ++ [_]).length ≤ _; rw [List.length_append]; exact Nat.succ_le_succ h2, next_sub p t⟩
  rcases List.mem_append.mp (show y ∈ path ++ [_] from hy) with z | z
  · exact ⟨Nat.le_succ_of_le (h1 y z).1, (h1 y z).2⟩
  · rw [List.mem_singleton.mp z]
    exact ⟨Nat.le_of_eq hi, ht⟩
theorem grown_mem {p : Pattern} {i : Nat} {e : Ev} {r q : Run} (h : q ∈ grown p i e r) : ∃ t ∈ r.open_, q = taking p r.path t i e := by
  unfold grown at h
  split at h
  · cases h
  · obtain ⟨t, ht, rfl⟩ := List.mem_map.mp h
    exact ⟨t, (List.mem_filter.mp ht).1, rfl⟩
theorem begun_mem {p : Pattern} {i : Nat} {e : Ev} {q : Run} (h : q ∈ begun p i e) : ∃ t ∈ firstOnes p, q = taking p [] t i e := by
  obtain ⟨t, ht, rfl⟩ := List.mem_map.mp h
  exact ⟨t, (List.mem_filter.mp ht).1, rfl⟩
theorem new_ok {s : St} (h : StOk s) (e : Ev) : ∀ q ∈ newRuns s e, RunOk s.pattern (s.count + 1) q := fun q hq => by
  rcases List.mem_append.mp hq with z | z
  · obtain ⟨r, hr, z⟩ := List.mem_flatMap.mp z
    obtain ⟨t, ht, rfl⟩ := grown_mem z
    exact .taking (h.runs r hr).ats (h.runs r hr).len (mem_range_of_sub (h.runs r hr).op ht) rfl
  · obtain ⟨t, ht, rfl⟩ := begun_mem z
    exact .taking (fun _ z => absurd z (by simp)) (Nat.zero_le _) (mem_range_of_sub (firsts_sub _) ht) rfl
theorem rkey_taking (p : Pattern) (path : List Taken) (t i : Nat) (e : Ev) : rkey (taking p path t i e) = key path ++ [(i, t)] := by
  show (path ++ [_]).map _ = _
  rw [List.map_append]
  rfl
theorem new_last {s : St} {e : Ev} {q : Run} (hq : q ∈ newRuns s e) : ∃ k t, rkey q = k ++ [(s.count + 1, t)] := by
  rcases List.mem_append.mp hq with z | z
  · obtain ⟨r, hr, z⟩ := List.mem_flatMap.mp z
    obtain ⟨t, ht, rfl⟩ := grown_mem z
    exact ⟨_, t, rkey_taking ..⟩
  · obtain ⟨t, ht, rfl⟩ := begun_mem z
    exact ⟨_, t, rkey_taking ..⟩
theorem nodup_map_of {α β : Type} {f : α → β} (hf : ∀ a b, f a = f b → a = b) {l : List α} (h : l.Nodup) : (l.map f).Nodup := by
  unfold List.Nodup at *
  rw [List.pairwise_map]
  exact h.imp fun hab z => hab (hf _ _ z)
theorem grown_kn {p : Pattern} {i : Nat} {e : Ev} {r : Run} (h : r.open_.Nodup) : ((grown p i e r).map rkey).Nodup := by
  unfold grown
  split
  · exact List.nodup_nil
  · rw [List.map_map]
    refine nodup_map_of (fun a b z => ?_) (h.sublist List.filter_sublist)
    have z : rkey (taking p r.path a i e) = rkey (taking p r.path b i e) := z
    rw [rkey_taking, rkey_taking] at z
    have := List.append_cancel_left z
    injection this with z1
    injection z1
theorem kn_all {s : St} (h : StOk s) (e : Ev) : KN (s.runs.map (passed s.pattern e) ++ newRuns s e) := by
  unfold KN
  rw [List.map_append]
  refine List.nodup_append.mpr ⟨?_, ?_, ?_⟩
  · rw [List.map_map]
    exact h.kn
  · unfold newRuns
    rw [List.map_append]
    refine List.nodup_append.mpr ⟨?_, ?_, ?_⟩
    · rw [List.map_flatMap]
      unfold List.Nodup
      rw [List.pairwise_flatMap]
      refine ⟨fun r hr => grown_kn (List.nodup_range.sublist (h.runs r hr).op), ?_⟩
      have hk : s.runs.Pairwise fun a b => rkey a ≠ rkey b := List.pairwise_map.mp h.kn
      refine hk.imp fun {a b} hab x hx y hy z => hab ?_
      obtain ⟨q1, hq1, rfl⟩ := List.mem_map.mp hx
      obtain ⟨q2, hq2, rfl⟩ := List.mem_map.mp hy
      obtain ⟨t1, _, rfl⟩ := grown_mem hq1
      obtain ⟨t2, _, rfl⟩ := grown_mem hq2
      rw [rkey_taking, rkey_taking] at z
      exact (List.append_inj' z rfl).1
    · unfold begun
      rw [List.map_map]
      refine nodup_map_of (fun a b z => ?_) ((List.nodup_range.sublist (firsts_sub _)).sublist List.filter_sublist)
      have z : rkey (taking s.pattern [] a (s.count + 1) e) = rkey (taking s.pattern [] b (s.count + 1) e) := z
      rw [rkey_taking, rkey_taking] at z
      have := List.append_cancel_left z
      injection this with z1
      injection z1
    · intro x hx y hy z
      obtain ⟨q1, hq1, rfl⟩ := List.mem_map.mp hx
      obtain ⟨q2, hq2, rfl⟩ := List.mem_map.mp hy
      obtain ⟨r, hr, hq1⟩ := List.mem_flatMap.mp hq1
      obtain ⟨t1, _, rfl⟩ := grown_mem hq1
      obtain ⟨t2, _, rfl⟩ := begun_mem hq2
      rw [rkey_taking, rkey_taking] at z
      have := (List.append_inj' z rfl).1
      have hn := (h.runs r hr).ne
      cases hp : r.path with
      | nil => exact hn hp
      | cons a l =>
        rw [hp] at this
        cases this
  · intro x hx y hy z
    obtain ⟨q1, hq1, rfl⟩ := List.mem_map.mp hx
    obtain ⟨q2, hq2, rfl⟩ := List.mem_map.mp hy
    obtain ⟨r, hr, rfl⟩ := List.mem_map.mp hq1
    obtain ⟨k, t, e2⟩ := new_last hq2
    rw [e2] at z
    have hm : ((s.count + 1, t) : Nat × Nat) ∈ rkey (passed s.pattern e r) := by rw [z]; simp
    obtain ⟨y, hy, ey⟩ := List.mem_map.mp hm
    have := ((h.runs r hr).ats y hy).1
    injection ey with e1
    omega
/-! ### the state with its runs in order -/
def srt (s : St) : St := { s with runs := sortR s.runs }
theorem StOk.srt {s : St} (h : StOk s) : StOk (srt s) :=
  ⟨h.st, fun r hr => h.runs r ((sortR_perm _).mem_iff.mp hr), h.kn.perm (sortR_perm _).symm, by rw [show (G.srt s).runs = sortR s.runs from rfl, (sortR_perm _).length_eq]; exact h.few⟩
theorem new_perm (s : St) (e : Ev) : (newRuns (srt s) e).Perm (newRuns s e) := ((sortR_perm s.runs).flatMap_right _).append_right _
theorem passed_perm (s : St) (e : Ev) : ((sortR s.runs).map (passed s.pattern e)).Perm (s.runs.map (passed s.pattern e)) := (sortR_perm s.runs).map _
/-- the matches, as runs in order -/
def ends (s : St) (e : Ev) : List Run := sortR ((newRuns (srt s) e).filter fun r => canEnd s.pattern (lastStage r))
theorem kn_new {s : St} (h : StOk s) (e : Ev) : KN (newRuns s e) := (kn_all h e).sub (List.sublist_append_right _ _)
theorem ends_paths {s : St} (h : StOk s) (e : Ev) : (ends s e).map Run.path = found s e := by
  unfold ends
  rw [sortR_congr ((kn_new h e).sub List.filter_sublist) ((new_perm s e).filter _), sort_paths]
  rfl
theorem ends_len {s : St} (h : StOk s) (e : Ev) : (ends s e).length = (found s e).length := by rw [← ends_paths h, List.length_map]
theorem first_app {p q : List Taken} (h : p ≠ []) : first (p ++ q) = first p := by
  cases p with
  | nil => exact absurd rfl h
  | cons a l => rfl
theorem Rel.new_clear {s : St} {k : Sk} (h : Rel s k) (e : Ev) : ∀ q ∈ newRuns s e, k.isShut q.path = false := fun q hq => by
  rcases List.mem_append.mp hq with z | z
  · obtain ⟨r, hr, z⟩ := List.mem_flatMap.mp z
    obtain ⟨t, ht, rfl⟩ := grown_mem z
    have := h.clear r hr
    unfold Sk.isShut at this ⊢
    rw [show first (taking s.pattern r.path t (s.count + 1) e).path = first r.path from first_app (h.ok.runs r hr).ne]
    exact this
  · obtain ⟨t, ht, rfl⟩ := begun_mem z
    unfold Sk.isShut
    show (decide (s.count + 1 ≤ k.shut) || k.begins.contains (s.count + 1)) = false
    have h1 := h.to
    rw [Bool.or_eq_false_iff]
    refine ⟨decide_eq_false (by omega), ?_⟩
    cases q : k.begins.contains (s.count + 1) with
    | false => rfl
    | true =>
      have := h.bs _ (List.contains_iff_mem.mp q)
      omega
theorem ends_mem {s : St} {e : Ev} {q : Run} (h : q ∈ ends s e) : q ∈ newRuns s e := (new_perm s e).mem_iff.mp (List.mem_filter.mp ((sortR_perm _).mem_iff.mp h)).1
/-- the loop over the matches tells what the specification tells -/
theorem Rel.told {s : St} {k : Sk} (h : Rel s k) (e : Ev) : (telling (k, []) (ends s e)).2.map Run.path = tells s e ∧ SkOf s.pattern (telling (k, []) (ends s e)).1 ∧
    (∀ o, (telling (k, []) (ends s e)).1.isShut o = (k.isShut o || (tells s e).any fun x => shuts s.pattern x o)) := by
  have q := telling_is (p := s.pattern) (ends s e) k [] k h.sk (fun o => by simp) (fun m hm => h.new_clear e m (ends_mem hm))
  rw [ends_paths h.ok] at q
  obtain ⟨q1, q2, q3⟩ := q
  have q1 : (telling (k, []) (ends s e)).2.map Run.path = tells s e := q1
  exact ⟨q1, q2, by rw [q1] at q3; exact q3⟩
/-- the runs that the program keeps, ahead of their sort -/
def kepts (s : St) (k : Sk) (e : Ev) : List Run := ((sortR s.runs).map (passed s.pattern e) ++ newRuns (srt s) e).filter fun r => !r.open_.isEmpty && !(telling (k, []) (ends s e)).1.isShut r.path
theorem Rel.kept_perm {s : St} {k : Sk} (h : Rel s k) (e : Ev) : (kepts s k e).Perm (kept s e) := by
  unfold kepts kept
  rw [List.filter_filter]
  refine (((passed_perm s e).append (new_perm s e)).filter _).trans ?_
  rw [List.filter_congr (q := fun r => (!(tells s e).any fun m => shuts s.pattern m r.path) && !r.open_.isEmpty) fun r hr => ?_]
  rw [(h.told e).2.2, Bool.and_comm]
  congr 2
  have : k.isShut r.path = false := by
    rcases List.mem_append.mp hr with z | z
    · obtain ⟨r0, hr0, rfl⟩ := List.mem_map.mp z
      exact h.clear r0 hr0
    · exact h.new_clear e r z
  rw [this, Bool.false_or]
theorem kn_kept {s : St} (h : StOk s) (e : Ev) : KN (kept s e) := ((kn_all h e).sub List.filter_sublist).sub List.filter_sublist
theorem Rel.kepts_sort {s : St} {k : Sk} (h : Rel s k) (e : Ev) : sortR (kepts s k e) = sortR (kept s e) := sortR_congr (kn_kept h.ok e) (h.kept_perm e)
theorem kn_kepts {s : St} {k : Sk} (h : Rel s k) (e : Ev) : KN (kepts s k e) := (kn_kept h.ok e).perm (h.kept_perm e).symm
theorem kept_ok {s : St} (h : StOk s) (e : Ev) : ∀ r ∈ kept s e, RunOk s.pattern (s.count + 1) r := fun r hr => by
  have hr := (List.mem_filter.mp (List.mem_filter.mp hr).1).1
  rcases List.mem_append.mp hr with z | z
  · obtain ⟨r0, hr0, rfl⟩ := List.mem_map.mp z
    exact ((h.runs r0 hr0).passed e).mono (Nat.le_succ _)
  · exact new_ok h e r z
theorem last_le {p : Pattern} {c : Nat} {r : Run} (h : RunOk p c r) : last r.path ≤ c := by
  unfold last
  cases q : r.path.getLast? with
  | none => exact Nat.zero_le _
  | some y => exact (h.ats y (List.mem_of_getLast? q)).1
theorem first_le {p : Pattern} {c : Nat} {r : Run} (h : RunOk p c r) : first r.path ≤ c := by
  unfold first
  cases q : r.path.head? with
  | none => exact Nat.zero_le _
  | some y => exact (h.ats y (List.mem_of_head? q)).1
theorem pivot_le {c p : Nat} : ∀ {path : List Taken}, (∀ t ∈ path, t.at_ ≤ c) → pivotEvent p path ≤ c
  | [], _ => Nat.zero_le _
  | y :: r, h => by
    show (if y.stage + 1 = p then y.at_ else pivotEvent p r) ≤ c
    split
    · exact h y (List.mem_cons_self ..)
    · exact pivot_le fun t ht => h t (List.mem_cons_of_mem _ ht)
theorem tell_bounds {k : Sk} {c n : Nat} {p : Pattern} {m : Run} (hm : RunOk p c m) (h1 : k.shut ≤ c) (h2 : ∀ b ∈ k.begins, b ≤ c) (h3 : k.begins.length ≤ n) :
    (k.tell m.path).shut ≤ c ∧ (∀ b ∈ (k.tell m.path).begins, b ≤ c) ∧ (k.tell m.path).begins.length ≤ n + 1 := by
  have a1 := last_le hm
  have a2 := first_le hm
  have a3 : pivotEvent k.pivot m.path ≤ c := pivot_le fun t ht => (hm.ats t ht).1
  unfold Sk.tell
  split
  · exact ⟨Nat.max_le.mpr ⟨h1, a1⟩, h2, Nat.le_succ_of_le h3⟩
  · split
    · refine ⟨h1, ?_, ?_⟩
      · show ∀ b ∈ (if k.begins.contains (first m.path) = true then k.begins else k.begins ++ [first m.path]), b ≤ c
        split
        · exact h2
        · intro b hb
          rcases List.mem_append.mp hb with z | z
          · exact h2 b z
          · rw [List.mem_singleton.mp z]; exact a2
      · show (if k.begins.contains (first m.path) = true then k.begins else k.begins ++ [first m.path]).length ≤ n + 1
        split
        · exact Nat.le_succ_of_le h3
        · rw [List.length_append]
          exact Nat.succ_le_succ h3
    · split
      · exact ⟨Nat.max_le.mpr ⟨h1, Nat.le_trans (Nat.sub_le _ _) a3⟩, h2, Nat.le_succ_of_le h3⟩
      · exact ⟨h1, h2, Nat.le_succ_of_le h3⟩
theorem telling_bounds {p : Pattern} {c : Nat} : ∀ (ms : List Run) (k : Sk) (told : List Run) (n : Nat), (∀ m ∈ ms, RunOk p c m) → k.shut ≤ c → (∀ b ∈ k.begins, b ≤ c) → k.begins.length ≤ n →
    (telling (k, told) ms).1.shut ≤ c ∧ (∀ b ∈ (telling (k, told) ms).1.begins, b ≤ c) ∧ (telling (k, told) ms).1.begins.length ≤ n + ms.length
  | [], k, told, n, _, h1, h2, h3 => ⟨h1, h2, h3⟩
  | m :: r, k, told, n, hm, h1, h2, h3 => by
    show (if k.isShut m.path = true then telling (k, told) r else telling (k.tell m.path, told ++ [m]) r).1.shut ≤ c ∧ (∀ b ∈ (if k.isShut m.path = true then telling (k, told) r else telling (k.tell m.path, told ++ [m]) r).1.begins, b ≤ c) ∧
      (if k.isShut m.path = true then telling (k, told) r else telling (k.tell m.path, told ++ [m]) r).1.begins.length ≤ n + (r.length + 1)
    split
    · have q := telling_bounds r k told n (fun m hm' => hm m (List.mem_cons_of_mem _ hm')) h1 h2 h3
      exact ⟨q.1, q.2.1, by have := q.2.2; omega⟩
    · obtain ⟨b1, b2, b3⟩ := tell_bounds (hm m (List.mem_cons_self ..)) h1 h2 h3
      have q := telling_bounds r (k.tell m.path) (told ++ [m]) (n + 1) (fun m hm' => hm m (List.mem_cons_of_mem _ hm')) b1 b2 b3
      exact ⟨q.1, q.2.1, by have := q.2.2; omega⟩
/-- the state behind an event that isn't refused -/
theorem Rel.behind {s : St} {k : Sk} (h : Rel s k) (e : Ev) (h1 : (ends s e).length ≤ 300) (h2 : (kepts s k e).length ≤ 300) : Rel (comes s e) (telling (k, []) (ends s e)).1 := by
  obtain ⟨t1, t2, t3⟩ := h.told e
  obtain ⟨b1, b2, b3⟩ := telling_bounds (p := s.pattern) (c := s.count + 1) (ends s e) k [] (300 * s.count) (fun m hm => new_ok h.ok e m (ends_mem hm)) (Nat.le_succ_of_le h.to) (fun b hb => Nat.le_succ_of_le (h.bs b hb)) h.bl
  refine ⟨⟨h.ok.st, kept_ok h.ok e, kn_kept h.ok e, by rw [show (Hs10.comes s e).runs = kept s e from rfl, ← (h.kept_perm e).length_eq]; exact h2⟩, t2, fun r hr => ?_, b1, b2, by show _ ≤ 300 * (s.count + 1); omega⟩
  have hr : r ∈ kepts s k e := (h.kept_perm e).mem_iff.mpr hr
  have := (List.mem_filter.mp hr).2
  rw [Bool.and_eq_true, Bool.not_eq_true', Bool.not_eq_true'] at this
  exact this.2
/-- what an event answers -/
theorem Rel.step_event {s : St} {k : Sk} (h : Rel s k) (a v t : Nat) (c1 : ¬ (9 < a ∨ 1000000 < v)) (c2 : ¬ t < s.now) (h1 : (ends s ⟨a, v, t⟩).length ≤ 300) (h2 : (kepts s k ⟨a, v, t⟩).length ≤ 300) :
    step s (.event a v t) = (comes s ⟨a, v, t⟩, Hs10.ints ((telling (k, []) (ends s ⟨a, v, t⟩)).2.length :: (telling (k, []) (ends s ⟨a, v, t⟩)).2.flatMap fun r => pathTold r.path)) := by
  have q : tooMany s ⟨a, v, t⟩ = false := by
    unfold tooMany
    rw [← ends_len h.ok, ← (h.kept_perm _).length_eq]
    rw [Bool.or_eq_false_iff]
    exact ⟨decide_eq_false (by omega), decide_eq_false (by omega)⟩
  show (if 9 < a ∨ 1000000 < v then (s, [-1]) else if t < s.now then (s, [-2]) else if tooMany s ⟨a, v, t⟩ = true then (s, [-9]) else (comes s ⟨a, v, t⟩, Hs10.ints ((tells s ⟨a, v, t⟩).length :: (tells s ⟨a, v, t⟩).flatMap pathTold))) = _
  rw [if_neg c1, if_neg c2, q, if_neg (by decide), ← (h.told _).1, List.length_map, List.flatMap_map]
theorem Rel.step_much {s : St} {k : Sk} (h : Rel s k) (a v t : Nat) (c1 : ¬ (9 < a ∨ 1000000 < v)) (c2 : ¬ t < s.now) (h1 : 300 < (ends s ⟨a, v, t⟩).length ∨ 300 < (kepts s k ⟨a, v, t⟩).length) :
    step s (.event a v t) = (s, [-9]) := by
  have q : tooMany s ⟨a, v, t⟩ = true := by
    unfold tooMany
    rw [← ends_len h.ok, ← (h.kept_perm _).length_eq, Bool.or_eq_true]
    exact h1.imp (fun z => decide_eq_true z) (fun z => decide_eq_true z)
  show (if 9 < a ∨ 1000000 < v then (s, [-1]) else if t < s.now then (s, [-2]) else if tooMany s ⟨a, v, t⟩ = true then (s, [-9]) else (comes s ⟨a, v, t⟩, Hs10.ints ((tells s ⟨a, v, t⟩).length :: (tells s ⟨a, v, t⟩).flatMap pathTold))) = _
  rw [if_neg c1, if_neg c2, if_pos q]
theorem rel_fresh {p : Pattern} {k : Sk} (h : StagesOk p) (hk : SkOf p k) (h0 : k.shut = 0) (hb : k.begins = []) : Rel (fresh p) k :=
  ⟨⟨h, fun _ hr => absurd hr (by show ¬ _ ∈ ([] : List Run); simp), by show ([] : List _).Nodup; exact List.nodup_nil, Nat.zero_le _⟩, hk, fun _ hr => absurd hr (by show ¬ _ ∈ ([] : List Run); simp), by rw [h0]; exact Nat.zero_le _, by rw [hb]; exact fun _ z => absurd z (by simp), by rw [hb]; exact Nat.zero_le _⟩
/-! ### the least begin -/
theorem foldl_min_le : ∀ (l : List Nat) (c : Nat), l.foldl min c ≤ c
  | [], _ => Nat.le_refl _
  | x :: r, c => Nat.le_trans (foldl_min_le r (min c x)) (Nat.min_le_left _ _)
theorem foldl_min_low : ∀ (l : List Nat) (c y : Nat), y ∈ l → l.foldl min c ≤ y
  | [], _, _, h => absurd h (by simp)
  | x :: r, c, y, h => by
    rcases List.mem_cons.mp h with e | e
    · rw [e]; exact Nat.le_trans (foldl_min_le r (min c x)) (Nat.min_le_right _ _)
    · exact foldl_min_low r (min c x) y e
theorem foldl_min_ge : ∀ (l : List Nat) (c m : Nat), m ≤ c → (∀ y ∈ l, m ≤ y) → m ≤ l.foldl min c
  | [], _, _, h, _ => h
  | x :: r, c, m, h, hl => foldl_min_ge r (min c x) m (Nat.le_min.mpr ⟨h, hl x (List.mem_cons_self ..)⟩) fun y hy => hl y (List.mem_cons_of_mem _ hy)
theorem first_is {l l' : List Nat} {c m : Nat} (p : l'.Perm l) (hm : m ∈ l') (hl : ∀ y ∈ l', m ≤ y) (hc : m ≤ c) : l.foldl min c = m :=
  Nat.le_antisymm (foldl_min_low l c m (p.mem_iff.mp hm)) (foldl_min_ge l c m hc fun y hy => hl y (p.mem_iff.mpr hy))
/-! ### stages by places -/
def leftB (xs : List Stage) (b e : Nat) : Bool := ((xs.take e).drop b).all passable
theorem cut_mem {α : Type} {xs : List α} {b e : Nat} {x : α} : x ∈ (xs.take e).drop b ↔ ∃ i, b ≤ i ∧ i < e ∧ xs[i]? = some x := by
  rw [List.mem_iff_getElem?]
  constructor
  · rintro ⟨j, h⟩
    rw [List.getElem?_drop, List.getElem?_take] at h
    split at h
    · exact ⟨b + j, by omega, by assumption, h⟩
    · cases h
  · rintro ⟨i, h1, h2, h3⟩
    refine ⟨i - b, ?_⟩
    rw [List.getElem?_drop, List.getElem?_take, if_pos (by omega), show b + (i - b) = i by omega]
    exact h3
theorem stage_at {p : Pattern} {i : Nat} {x : Stage} (h : p.stages[i]? = some x) : stage p i = x := by
  unfold stage
  rw [List.getD_eq_getElem?_getD, h]
  rfl
theorem stage_get {p : Pattern} {i : Nat} (h : i < p.stages.length) : p.stages[i]? = some (stage p i) := by
  rw [List.getElem?_eq_getElem h]
  exact congrArg some (stage_at (List.getElem?_eq_getElem h)).symm
theorem between_mem {p : Pattern} {a b i : Nat} : i ∈ between p a b ↔ a ≤ i ∧ i < b := by
  unfold between
  rw [List.mem_filter, List.mem_range, decide_eq_true_eq]
  omega
theorem left_between (p : Pattern) (b e : Nat) (h : e ≤ p.stages.length) : leftB p.stages b e = (between p b e).all fun i => passable (stage p i) := by
  unfold leftB
  rw [Bool.eq_iff_iff, List.all_eq_true, List.all_eq_true]
  constructor
  · intro q i hi
    obtain ⟨h1, h2⟩ := between_mem.mp hi
    exact q _ (cut_mem.mpr ⟨i, h1, h2, stage_get (by omega)⟩)
  · intro q x hx
    obtain ⟨i, h1, h2, h3⟩ := cut_mem.mp hx
    rw [← stage_at h3]
    exact q i (between_mem.mpr ⟨h1, h2⟩)
theorem barred_any (p : Pattern) (b e : Nat) (h : e ≤ p.stages.length) (f : Stage → Bool) : (((p.stages.take e).drop b).filter isNot).any f = (between p b e).any fun k => isNot (stage p k) && f (stage p k) := by
  rw [Bool.eq_iff_iff, List.any_eq_true, List.any_eq_true]
  constructor
  · rintro ⟨x, hx, hf⟩
    obtain ⟨hx, hn⟩ := List.mem_filter.mp hx
    obtain ⟨i, h1, h2, h3⟩ := cut_mem.mp hx
    refine ⟨i, between_mem.mpr ⟨h1, h2⟩, ?_⟩
    rw [stage_at h3, hn, hf]
    rfl
  · rintro ⟨i, hi, hf⟩
    obtain ⟨h1, h2⟩ := between_mem.mp hi
    rw [Bool.and_eq_true] at hf
    exact ⟨stage p i, List.mem_filter.mpr ⟨cut_mem.mpr ⟨i, h1, h2, stage_get (by omega)⟩, hf.1⟩, hf.2⟩
/-- which stages can come first -/
def canF (p : Pattern) (t : Nat) : Bool := !isNot (stage p t) && leftB p.stages 0 t
theorem firsts_is (p : Pattern) : firstOnes p = (List.range p.stages.length).filter (canF p) := by
  unfold firstOnes
  refine List.filter_congr fun t ht => ?_
  unfold canF
  rw [left_between p 0 t (Nat.le_of_lt (List.mem_range.mp ht))]
def canN (p : Pattern) (a t : Nat) : Bool := !isNot (stage p t) && leftB p.stages (a + 1) t
theorem nexts_is (p : Pattern) (a : Nat) (h : a < p.stages.length) : nextOnes p a = (if isMany (stage p a) = true then [a] else []) ++ ((List.range (p.stages.length - (a + 1))).map fun j => a + 1 + j).filter (canN p a) := by
  unfold nextOnes
  have e : List.range p.stages.length = List.range a ++ [a] ++ (List.range (p.stages.length - (a + 1))).map fun j => a + 1 + j := by
    have e1 : p.stages.length = (a + 1) + (p.stages.length - (a + 1)) := by omega
    conv => lhs; rw [e1]
    rw [List.range_add, List.range_succ]
  rw [e, List.filter_append, List.filter_append]
  have h0 : (List.range a).filter (fun t => (t == a && isMany (stage p a)) || (decide (a < t) && (!isNot (stage p t) && (between p (a + 1) t).all fun i => passable (stage p i)))) = [] := by
    rw [List.filter_eq_nil_iff]
    intro t ht
    have := List.mem_range.mp ht
    have h1 : (t == a) = false := by simp; omega
    have h2 : decide (a < t) = false := by simp; omega
    rw [h1, h2]
    simp
  rw [h0, List.nil_append]
  congr 1
  · rw [List.filter_cons]
    have h1 : (a == a) = true := by simp
    have h2 : decide (a < a) = false := by simp
    rw [h1, h2, Bool.true_and, Bool.false_and, Bool.or_false]
    rfl
  · refine List.filter_congr fun t ht => ?_
    obtain ⟨j, hj, rfl⟩ := List.mem_map.mp ht
    have := List.mem_range.mp hj
    have h1 : (a + 1 + j == a) = false := by simp; omega
    have h2 : decide (a < a + 1 + j) = true := by simp; omega
    rw [h1, h2, Bool.false_and, Bool.false_or, Bool.true_and]
    unfold canN
    rw [left_between p (a + 1) (a + 1 + j) (by omega)]
theorem end_is (p : Pattern) (a : Nat) : canEnd p a = leftB p.stages (a + 1) p.stages.length := by
  unfold canEnd
  rw [left_between p (a + 1) _ (Nat.le_refl _)]
end G

/-! ## PRflat -/
/-! The calls in one list: what its head is, what is due. -/
namespace G
def codeOf : Hs10.Call → Nat
  | .pattern .. => 0
  | .event .. => 1
  | .runs => 2
  | .counts => 3
  | .first => 4
def ownOf : Hs10.Call → List Nat
  | .pattern k p w _ => [k, p, w]
  | .event k v t => [k, v, t]
  | _ => []
def rowOf : Hs10.Call → List Nat
  | .pattern _ _ _ l => l
  | _ => []
def tailOf : Hs10.Call → List Nat
  | .pattern _ _ _ l => l.length :: l
  | _ => []
/-- a call as it stands in the list -/
def wordOf (x : Hs10.Call) : List Nat := codeOf x :: (ownOf x ++ tailOf x)
theorem nat_of {z : Int} (h : Hs10Neutral.nat z = true) : z = ((z.toNat : Nat) : Int) := by
  unfold Hs10Neutral.nat at h
  rw [Bool.and_eq_true, decide_eq_true_eq] at h
  omega
theorem nats_of : ∀ {l : List Int}, l.all Hs10Neutral.nat = true → l = (l.map Int.toNat).map fun n : Nat => (n : Int)
  | [], _ => rfl
  | z :: r, h => by
    rw [List.all_cons, Bool.and_eq_true] at h
    have h1 := nat_of h.1
    have h2 := nats_of h.2
    show z :: r = ((z.toNat : Nat) : Int) :: ((r.map Int.toNat).map fun n : Nat => (n : Int))
    rw [← h2, ← h1]
theorem step_of {c : List (List Int)} {x : Hs10.Call} (h : Hs10Neutral.callOf c = some x) (s : Hs10.St) : Hs10Neutral.step s c = Hs10.step s x := by
  unfold Hs10Neutral.step
  rw [h]
theorem all_of {c : List (List Int)} (h : Hs10Neutral.asked1 c = true) : c.all (fun r => r.all Hs10Neutral.nat) = true ∧ Hs10Neutral.callOf c = Hs10Neutral.callIn (c.map fun r => r.map Int.toNat) := by
  unfold Hs10Neutral.asked1 Hs10Neutral.callOf at h
  unfold Hs10Neutral.callOf
  by_cases q : (c.all fun r => r.all Hs10Neutral.nat) = false
  · rw [if_pos q] at h
    cases h
  · rw [if_neg q]
    exact ⟨by simpa using q, rfl⟩
theorem calls_cons {f : Nat} {p : Int} {r : List Int} {cs : List (List (List Int))} (h : PyFlat.calls PyHs10.shape f (p :: r) = some cs) : ∃ f' c t cs', PyFlat.call PyHs10.shape (p :: r) = some (c, t) ∧ PyFlat.calls PyHs10.shape f' t = some cs' ∧ cs = c :: cs' := by
  cases f with
  | zero => cases h
  | succ f' =>
    unfold PyFlat.calls at h
    cases e : PyFlat.call PyHs10.shape (p :: r) with
    | none =>
      rw [e] at h
      cases h
    | some y =>
      obtain ⟨c, t⟩ := y
      rw [e] at h
      have h : (match PyFlat.calls PyHs10.shape f' t with
        | none => none
        | some cs => some (c :: cs)) = some cs := h
      cases e2 : PyFlat.calls PyHs10.shape f' t with
      | none =>
        rw [e2] at h
        cases h
      | some cs' =>
        rw [e2] at h
        exact ⟨f', c, t, cs', rfl, e2, (Option.some.inj h).symm⟩
theorem take3 : ∀ {r : List Int}, ¬ r.length < 3 → ∃ x0 x1 x2 r', r = x0 :: x1 :: x2 :: r'
  | [], h => absurd (by decide) h
  | [_], h => absurd (show 1 < 3 by decide) h
  | [_, _], h => absurd (show 2 < 3 by decide) h
  | x0 :: x1 :: x2 :: r', _ => ⟨x0, x1, x2, r', rfl⟩
/-- the head of the list is one call -/
theorem call_head {p : Int} {r : List Int} {c : List (List Int)} {t : List Int} (h : PyFlat.call PyHs10.shape (p :: r) = some (c, t)) (ha : Hs10Neutral.asked1 (PyHs10.whole c) = true) : ∃ x, (∀ s, Hs10Neutral.step s (PyHs10.whole c) = Hs10.step s x) ∧ p :: r = (wordOf x).map (fun n : Nat => (n : Int)) ++ t := by
  have h : (match PyHs10.shape p with
    | none => none
    | some (n, k) => if r.length < n then none else match PyFlat.rows k (r.drop n) with
      | none => none
      | some (xs, t) => some ((p :: r.take n) :: xs, t)) = some (c, t) := h
  by_cases h0 : p = 0
  · subst h0
    have h : (if r.length < 3 then none else match PyFlat.rows 1 (r.drop 3) with
      | none => none
      | some (xs, t) => some (((0 : Int) :: r.take 3) :: xs, t)) = some (c, t) := h
    by_cases hl : r.length < 3
    · rw [if_pos hl] at h
      cases h
    rw [if_neg hl] at h
    obtain ⟨x0, x1, x2, r', rfl⟩ := take3 hl
    cases r' with
    | nil => cases h
    | cons m r2 =>
      have h : (match (match (if 0 ≤ m ∧ m.toNat ≤ r2.length then some (r2.take m.toNat, r2.drop m.toNat) else none) with
        | none => none
        | some (x, s) => some ([x], s)) with
        | none => none
        | some (xs, t) => some (([0, x0, x1, x2] : List Int) :: xs, t)) = some (c, t) := h
      by_cases hm : 0 ≤ m ∧ m.toNat ≤ r2.length
      · rw [if_pos hm] at h
        have h : some ([[0, x0, x1, x2], r2.take m.toNat], r2.drop m.toNat) = some (c, t) := h
        obtain ⟨rfl, rfl⟩ := Prod.mk.inj (Option.some.inj h)
        obtain ⟨ha, hc⟩ := all_of ha
        have ha : ((([0, x0, x1, x2] : List Int).all Hs10Neutral.nat) && ((r2.take m.toNat).all Hs10Neutral.nat && true)) = true := ha
        rw [Bool.and_eq_true, Bool.and_eq_true] at ha
        have h1 := nats_of ha.1
        have h2 := nats_of ha.2.1
        refine ⟨.pattern x0.toNat x1.toNat x2.toNat ((r2.take m.toNat).map Int.toNat), fun s => step_of hc s, ?_⟩
        have h1 : ([0, x0, x1, x2] : List Int) = [0, ((x0.toNat : Nat) : Int), ((x1.toNat : Nat) : Int), ((x2.toNat : Nat) : Int)] := h1
        have hlen : ((((r2.take m.toNat).map Int.toNat).length : Nat) : Int) = m := by
          rw [List.length_map, List.length_take]
          omega
        show [0, x0, x1, x2] ++ m :: r2 = [0, ((x0.toNat : Nat) : Int), ((x1.toNat : Nat) : Int), ((x2.toNat : Nat) : Int)] ++ ((((r2.take m.toNat).map Int.toNat).length : Nat) : Int) :: (((r2.take m.toNat).map Int.toNat).map (fun n : Nat => (n : Int)) ++ r2.drop m.toNat)
        rw [hlen, ← h1, ← h2, List.take_append_drop]
      · rw [if_neg hm] at h
        cases h
  by_cases h1 : p = 1
  · subst h1
    have h : (if r.length < 3 then none else some ([(1 : Int) :: r.take 3], r.drop 3)) = some (c, t) := h
    by_cases hl : r.length < 3
    · rw [if_pos hl] at h
      cases h
    rw [if_neg hl] at h
    obtain ⟨x0, x1, x2, r', rfl⟩ := take3 hl
    have h : some ([[1, x0, x1, x2]], r') = some (c, t) := h
    obtain ⟨rfl, rfl⟩ := Prod.mk.inj (Option.some.inj h)
    obtain ⟨ha, hc⟩ := all_of ha
    have ha : ((([1, x0, x1, x2] : List Int).all Hs10Neutral.nat) && true) = true := ha
    rw [Bool.and_eq_true] at ha
    have h1 := nats_of ha.1
    refine ⟨.event x0.toNat x1.toNat x2.toNat, fun s => step_of hc s, ?_⟩
    have h1 : ([1, x0, x1, x2] : List Int) = [1, ((x0.toNat : Nat) : Int), ((x1.toNat : Nat) : Int), ((x2.toNat : Nat) : Int)] := h1
    show [1, x0, x1, x2] ++ r' = [1, ((x0.toNat : Nat) : Int), ((x1.toNat : Nat) : Int), ((x2.toNat : Nat) : Int)] ++ r'
    rw [← h1]
  by_cases h2 : p = 2
  · subst h2
    have h : (if r.length < 0 then none else some ([[(2 : Int)]], r)) = some (c, t) := h
    rw [if_neg (Nat.not_lt_zero _)] at h
    obtain ⟨rfl, rfl⟩ := Prod.mk.inj (Option.some.inj h)
    exact ⟨.runs, fun s => rfl, rfl⟩
  by_cases h3 : p = 3
  · subst h3
    have h : (if r.length < 0 then none else some ([[(3 : Int)]], r)) = some (c, t) := h
    rw [if_neg (Nat.not_lt_zero _)] at h
    obtain ⟨rfl, rfl⟩ := Prod.mk.inj (Option.some.inj h)
    exact ⟨.counts, fun s => rfl, rfl⟩
  by_cases h4 : p = 4
  · subst h4
    have h : (if r.length < 0 then none else some ([[(4 : Int)]], r)) = some (c, t) := h
    rw [if_neg (Nat.not_lt_zero _)] at h
    obtain ⟨rfl, rfl⟩ := Prod.mk.inj (Option.some.inj h)
    exact ⟨.first, fun s => rfl, rfl⟩
  · have e : PyHs10.shape p = none := by
      unfold PyHs10.shape
      rw [if_neg h0, if_neg h1, if_neg h2, if_neg h3, if_neg h4]
    rw [e] at h
    cases h
/-- what is still to be played -/
structure Due (s : Hs10.St) (rest : List Int) (due : List Int) (n : Nat) : Prop where
  out : ∃ f cs, PyFlat.calls PyHs10.shape f rest = some cs ∧ due = PyFlat.told (PyFlat.played Hs10Neutral.step s (cs.map PyHs10.whole)) ∧ cs.length ≤ n ∧ ∀ c ∈ cs, Hs10Neutral.asked1 (PyHs10.whole c) = true
theorem Due.nil {s : Hs10.St} {due : List Int} {n : Nat} (h : Due s [] due n) : due = [] := by
  obtain ⟨f, cs, h1, h2, _⟩ := h.out
  have e : cs = [] := by
    cases f <;> exact (Option.some.inj h1).symm
  rw [h2, e]
  rfl
theorem Due.cons {s : Hs10.St} {p : Int} {r due : List Int} {n : Nat} (h : Due s (p :: r) due n) : ∃ x t due' m, p :: r = (wordOf x).map (fun n : Nat => (n : Int)) ++ t ∧ n = m + 1 ∧ Due (Hs10.step s x).1 t due' m ∧ due = (((Hs10.step s x).2.length : Nat) : Int) :: ((Hs10.step s x).2 ++ due') := by
  obtain ⟨f, cs, h1, h2, h3, h4⟩ := h.out
  obtain ⟨f', c, t, cs', e1, e2, rfl⟩ := calls_cons h1
  obtain ⟨x, hx, hw⟩ := call_head e1 (h4 c (List.mem_cons_self ..))
  rw [List.length_cons] at h3
  refine ⟨x, t, PyFlat.told (PyFlat.played Hs10Neutral.step (Hs10.step s x).1 (cs'.map PyHs10.whole)), n - 1, hw, by omega, ⟨f', cs', e2, rfl, by omega, fun y hy => h4 y (List.mem_cons_of_mem _ hy)⟩, ?_⟩
  rw [h2]
  show PyFlat.told ((Hs10Neutral.step s (PyHs10.whole c)).2 :: PyFlat.played Hs10Neutral.step (Hs10Neutral.step s (PyHs10.whole c)).1 (cs'.map PyHs10.whole)) = _
  rw [hx]
  rfl
theorem due_of {ns : List Int} (h : PyHs10.answers_asked ns = true) : Due Hs10.init ns (PyHs10.answers ns) 60 ∧ (PyHs10.answers ns).length ≤ 10000000 := by
  unfold PyHs10.answers_asked at h
  cases e : PyFlat.calls PyHs10.shape ns.length ns with
  | none =>
    rw [e] at h
    cases h
  | some raw =>
    rw [e] at h
    have h : (!raw.isEmpty && PyFlat.atMost 60 raw && PyInside.calls PyHs10.bound raw && Hs10Neutral.asked (raw.map PyHs10.whole) && PyFlat.short 10000000 (PyHs10.answers ns)) = true := h
    rw [Bool.and_eq_true, Bool.and_eq_true, Bool.and_eq_true, Bool.and_eq_true] at h
    obtain ⟨⟨⟨⟨_, h1⟩, _⟩, h2⟩, h3⟩ := h
    have ea : PyHs10.answers ns = PyFlat.told (PyFlat.played Hs10Neutral.step Hs10.init (raw.map PyHs10.whole)) := by
      unfold PyHs10.answers PyHs10.calls
      rw [e]
      rfl
    refine ⟨⟨_, raw, e, ea, of_decide_eq_true h1, fun c hc => ?_⟩, of_decide_eq_true h3⟩
    unfold Hs10Neutral.asked at h2
    rw [Bool.and_eq_true, List.all_eq_true] at h2
    exact h2.1 _ (List.mem_map.mpr ⟨c, hc, rfl⟩)
end G

/-! ## PRrulesA -/
/-! Two rules that the layer lacks: min(xs, default=d) and dict(d). -/
namespace G
open PySem PyProof.Rows
section
variable {prog : Program} {w : World} {A : Around} {R : Result → Shared → Prop} {I : Addr} {fp wr : List Addr} {n : Nat} {P : Nat → Value → Prop} {St : Nat → Heap → Prop} {kw : List (Str × Value)}
theorem mnd_name : (toString "min" ++ toString ".loop" : String) = "min.loop" := by decide
/-- min's loop, whatever keywords it carries -/
theorem mnd_loop (W : Walks prog w A.in1 I fp wr n P St) (bt : Nat → Nat → Bool) (hcmp : CmpOf prog w A.in1 .Lt P bt) (B : Addr) (hB : B ∉ fp) :
    ∀ (k j : Nat) (s : Shared) (vb : Value) (c : Nat), n - (j + 1) = k → j + 1 ≤ n → St (j + 1) s.heap → P (argBest bt j) vb → s.heap.get? B = some { cls := .type "list", dict := none, data := .seq #[vb, vb] c, slots := #[] } →
    (∀ v h' tk, P (argBest bt (n - 1)) v → (∀ b o, b ∉ wr → b ≠ B → s.heap.get? b = some o → h'.get? b = some o) → R (.ok (.ret v)) { s with heap := h', toks := tk }) → codeAny (model prog w) A (.builtin "min.loop" ⟨[.ref I, .none, .ref B], kw⟩) R s := by
  have hBw : B ∉ wr := fun h => hB (W.sub _ h)
  intro k
  induction k with
  | zero =>
    intro j s vb c hk hj hst hPb hS hR
    have hin : j + 1 = n := by omega
    refine codeAny_builtin F.entry_min_loop ?_
    rw [Around.under_plainId F.plain_min_loop _]
    show wpAny _ A.in1 (seqItems? (.ref B) >>= _) _ _ s
    refine wpAny_bind (wpAny_seqItems hS rfl ?_)
    show wpAny _ A.in1 (tryCatch (pyNext (.ref I)) _ >>= _) _ _ s
    refine wpAny_bind (wpAny_tryCatch (W.done s _ _ (hin ▸ hst) fun h' tk hold => ?_))
    have hS' := hold B _ hBw hS
    show wpAny _ A.in1 (updateSeq B (fun _ => #[]) >>= _) _ _ _
    refine wpAny_bind ?_
    refine wpAny_updateSeq hS' rfl (wpAny_bind (wpAny_letGo (wpAny_pure ?_)))
    exact hR vb _ tk (by rw [← hin]; exact hPb) fun b o hbw hbB e => (Heap.get?_update_other _ _ (Ne.symm hbB)).trans (hold b o hbw e)
  | succ k ih =>
    intro j s vb c hk hj hst hPb hS hR
    have hlt : j + 1 < n := by omega
    refine codeAny_builtin F.entry_min_loop ?_
    rw [Around.under_plainId F.plain_min_loop _]
    show wpAny _ A.in1 (seqItems? (.ref B) >>= _) _ _ s
    refine wpAny_bind (wpAny_seqItems hS rfl ?_)
    show wpAny _ A.in1 (tryCatch (pyNext (.ref I)) _ >>= _) _ _ s
    refine wpAny_bind (wpAny_tryCatch (W.item (j + 1) s _ _ hlt hst fun v h' tk hP hst' hold => ?_))
    have hS' := hold B _ hBw hS
    show wpAny _ A.in1 (tryCatch (holding [v, v] (richCompare .Lt v vb >>= _)) _ >>= _) _ _ _
    refine wpAny_bind (wpAny_tryCatch (wpAny_holding (wpAny_bind (hcmp (j + 1) (argBest bt j) v vb _ _ _ hP hPb ?_))))
    refine wpAny_bind (wpAny_holding (wpAny_truthy_bool ?_))
    refine wpAny_bind (wpAny_letGo (wpAny_pure ?_))
    cases hb : bt (j + 1) (argBest bt j) with
    | true =>
      simp only [if_true]
      refine wpAny_bind ?_
      refine wpAny_updateSeq hS' rfl (wpAny_bind (wpAny_letGo ?_))
      rw [mnd_name]
      refine wpAny_pure ⟨plainId_quiet F.plain_min_loop _, ih (j + 1) _ v _ (by omega) hlt (W.frame _ _ _ hst' fun b hbf o e => ?_) (by simp only [argBest, hb, if_true]; exact hP) (Heap.get?_update_self _ hS' rfl) fun v' h'' tk'' hP' hold2 => ?_⟩
      · exact (Heap.get?_update_other _ _ (fun z : B = b => hB (by rw [z]; exact hbf))).trans e
      · exact hR v' h'' tk'' hP' fun b o hbw hbB e => hold2 b o hbw hbB ((Heap.get?_update_other _ _ (Ne.symm hbB)).trans (hold b o hbw e))
    | false =>
      simp only [Bool.false_eq_true, if_false]
      refine wpAny_bind (wpAny_letGo ?_)
      rw [mnd_name]
      refine wpAny_pure ⟨plainId_quiet F.plain_min_loop _, ih (j + 1) _ vb c (by omega) hlt hst' (by simp only [argBest, hb, Bool.false_eq_true, if_false]; exact hPb) hS' fun v' h'' tk'' hP' hold2 => ?_⟩
      exact hR v' h'' tk'' hP' fun b o hbw hbB e => hold2 b o hbw hbB (hold b o hbw e)
theorem mnd_first (W : Walks prog w A.in1 I fp wr n P St) (bt : Nat → Nat → Bool) (hcmp : CmpOf prog w A.in1 .Lt P bt) (B : Addr) (hB : B ∉ fp) (hn : 0 < n) {s : Shared} {c : Nat} (hst : St 0 s.heap) (hS : s.heap.get? B = some { cls := .type "list", dict := none, data := .seq #[] c, slots := #[] })
    (hR : ∀ v h' tk, P (argBest bt (n - 1)) v → (∀ b o, b ∉ wr → b ≠ B → s.heap.get? b = some o → h'.get? b = some o) → R (.ok (.ret v)) { s with heap := h', toks := tk }) : codeAny (model prog w) A (.builtin "min.loop" ⟨[.ref I, .none, .ref B], kw⟩) R s := by
  have hBw : B ∉ wr := fun h => hB (W.sub _ h)
  refine codeAny_builtin F.entry_min_loop ?_
  rw [Around.under_plainId F.plain_min_loop _]
  show wpAny _ A.in1 (seqItems? (.ref B) >>= _) _ _ s
  refine wpAny_bind (wpAny_seqItems hS rfl ?_)
  show wpAny _ A.in1 (tryCatch (pyNext (.ref I)) _ >>= _) _ _ s
  refine wpAny_bind (wpAny_tryCatch (W.item 0 s _ _ hn hst fun v h' tk hP hst' hold => ?_))
  have hS' := hold B _ hBw hS
  show wpAny _ A.in1 (updateSeq B (fun _ => #[v, v]) >>= _) _ _ _
  refine wpAny_bind ?_
  refine wpAny_updateSeq hS' rfl ?_
  rw [mnd_name]
  refine wpAny_pure ⟨plainId_quiet F.plain_min_loop _, mnd_loop W bt hcmp B hB _ 0 _ v _ rfl hn (W.frame _ _ _ hst' fun b hbf o e => ?_) hP (Heap.get?_update_self _ hS' rfl) fun v' h'' tk'' hP' hold2 => ?_⟩
  · exact (Heap.get?_update_other _ _ (fun z : B = b => hB (by rw [z]; exact hbf))).trans e
  · exact hR v' h'' tk'' hP' fun b o hbw hbB e => hold2 b o hbw hbB ((Heap.get?_update_other _ _ (Ne.symm hbB)).trans (hold b o hbw e))
/-- nothing to walk: the default -/
theorem mnd_none {d : Value} {k0 : Str} (W : Walks prog w A.in1 I fp wr 0 P St) (B : Addr) (hB : B ∉ fp) {s : Shared} {c : Nat} (hst : St 0 s.heap) (hS : s.heap.get? B = some { cls := .type "list", dict := none, data := .seq #[] c, slots := #[] })
    (hR : ∀ h' tk, (∀ b o, b ∉ wr → s.heap.get? b = some o → h'.get? b = some o) → R (.ok (.ret d)) { s with heap := h', toks := tk }) : codeAny (model prog w) A (.builtin "min.loop" ⟨[.ref I, .none, .ref B], [(k0, d)]⟩) R s := by
  refine codeAny_builtin F.entry_min_loop ?_
  rw [Around.under_plainId F.plain_min_loop _]
  show wpAny _ A.in1 (seqItems? (.ref B) >>= _) _ _ s
  refine wpAny_bind (wpAny_seqItems hS rfl ?_)
  show wpAny _ A.in1 (tryCatch (pyNext (.ref I)) _ >>= _) _ _ s
  refine wpAny_bind (wpAny_tryCatch (W.done s _ _ hst fun h' tk hold => ?_))
  show wpAny _ A.in1 (rule _ >>= _) _ _ _
  refine wpAny_bind (wpAny_rule (wpAny_pure ?_))
  exact hR h' tk hold
end
section
variable {prog : Program} {w : World} {A : Around} {E : Value → Shared → Prop} {s : Shared}
/-- a built-in function called with keywords, which may go on as another code -/
theorem fn_treeKw {id : String} {b : Builtin} {args : List Value} {kw : List (Str × Value)} {Q : Value → Shared → Prop} (hk : builtinKind id = none) (hp : plainId id = true) (hb : entryFor table id = some b) (ha : argsOk id ⟨args, kw⟩)
    (hc : wpAny (model prog w) A.in1 (b ⟨args, kw⟩) (fun fin s' => match fin with
      | .done f => (match (Except.ok f : Result) with
        | .ok (.ret v) => Q v s'
        | .ok _ => False
        | .error e => E e s')
      | .again c' => c'.quiet = true ∧ codeAny (model prog w) A c' (fun r s' => match r with
        | .ok (.ret v) => Q v s'
        | .ok _ => False
        | .error e => E e s') s') E s) : wpAny (model prog w) A (call (.builtin id) args kw) Q E s := by
  refine wpAny_call (codeAny_call_builtin hp hb ?_)
  simp only [checkBuiltinCall, hk]
  cases hsig : Manifest.signature? id with
  | none => exact wpAny_pure hc
  | some sig =>
    have ha' : Bind.checkArgs id sig ⟨args, kw⟩ = pure () := by simpa only [argsOk, hsig] using ha
    show wpAny (model prog w) A.in1 (Bind.checkArgs id sig ⟨args, kw⟩) _ _ _
    rw [ha']
    exact wpAny_pure hc
end
theorem mnd_args (x d : Value) : argsOk "min" ⟨[x], [(Str.ofString "default", d)]⟩ := by unfold argsOk; kernel_rfl
section
variable {prog : Program} {w : World} {A : Around} {E : Value → Shared → Prop} {s : Shared}
theorem mnd_call {x d : Value} {Q : Value → Shared → Prop} (h : wpAny (model prog w) A.in1 (pyIter x) (fun it s₂ => ∃ I fp wr n P St bt, it = .ref I ∧ Walks prog w A.in1 I fp wr n P St ∧ St 0 s₂.heap ∧ (∀ b ∈ fp, b < s₂.heap.objs.size) ∧ CmpOf prog w A.in1 .Lt P bt ∧
      (0 < n → ∀ v h' tk, P (argBest bt (n - 1)) v → (∀ b o, b ∉ wr → s₂.heap.get? b = some o → h'.get? b = some o) → Q v { s₂ with heap := h', toks := tk }) ∧
      (n = 0 → ∀ h' tk, (∀ b o, b ∉ wr → s₂.heap.get? b = some o → h'.get? b = some o) → Q d { s₂ with heap := h', toks := tk })) E s) :
    wpAny (model prog w) A (call (.builtin "min") [x] [(Str.ofString "default", d)]) Q E s := by
  refine fn_treeKw F.kind_min F.plain_min F.entry_min (mnd_args _ _) ?_
  show wpAny _ A.in1 (Builtin.Builtins.bindParams "min" ["key", "default"] 0 ⟨[], [(Str.ofString "default", d)]⟩ >>= _) _ _ s
  refine wpAny_bind (wpAny_of_eq (show Builtin.Builtins.bindParams "min" ["key", "default"] 0 ⟨[], [(Str.ofString "default", d)]⟩ = pure [none, some d] from rfl) ?_)
  refine wpAny_bind (wpAny_pure ?_)
  refine wpAny_bind (wpAny_mono h (fun it s₂ h₂ => ?_) fun _ _ e => e)
  obtain ⟨I, fp, wr, n, P, St, bt, rfl, W, hst, hfp, hcmp, hQ, hZ⟩ := h₂
  refine wpAny_bind (wpAny_newObj_type ?_)
  have hB : s₂.heap.objs.size ∉ fp := fun hm => Nat.lt_irrefl _ (hfp _ hm)
  rw [mnd_name]
  have hst' := W.frame 0 s₂.heap (s₂.heap.push { cls := .type "list", data := .seq #[] }) hst fun b _ o e => Heap.get?_push_of_some _ e
  cases n with
  | zero =>
    refine wpAny_pure ⟨plainId_quiet F.plain_min_loop _, mnd_none (s := { s₂ with heap := s₂.heap.push { cls := .type "list", data := .seq #[] } }) W s₂.heap.objs.size hB hst' (Heap.get?_push_size _ rfl) fun h' tk hold => ?_⟩
    exact hZ rfl h' tk fun b o hbw e => hold b o hbw (Heap.get?_push_of_some _ e)
  | succ n =>
    refine wpAny_pure ⟨plainId_quiet F.plain_min_loop _, mnd_first (s := { s₂ with heap := s₂.heap.push { cls := .type "list", data := .seq #[] } }) W bt hcmp s₂.heap.objs.size hB (Nat.succ_pos _) hst' (Heap.get?_push_size _ rfl) fun v h' tk hP hold => ?_⟩
    exact hQ (Nat.succ_pos _) v h' tk hP fun b o hbw e => hold b o hbw (Nat.ne_of_lt (Heap.lt_size e)) (Heap.get?_push_of_some _ e)
end
section
variable {prog : Program} {w : World} {A : Around} {E : Value → Shared → Prop} {s : Shared} {l : Addr} {its : List Value} {ns : List Int} {d : Value} {Q : Value → Shared → Prop}
theorem mnd_ints (hh : A.handled = none) (hl : s.heap.IsList l its.toArray) (hi : IntsAre its ns) (h0 : ns = [] → ∀ h' tk, (∀ b o, s.heap.get? b = some o → h'.get? b = some o) → Q d { s with heap := h', toks := tk })
    (h : ∀ h' tk M t', (∀ b o, s.heap.get? b = some o → h'.get? b = some o) → M ∈ ns → (∀ a, a ∈ ns → M ≤ a) → Q (.int M t') { s with heap := h', toks := tk }) : wpAny (model prog w) A (call (.builtin "min") [.ref l] [(Str.ofString "default", d)]) Q E s := by
  obtain ⟨xs, e⟩ := hi.allInts.items
  have hn : numsOf (intItems xs).toList = ns := by
    rw [← e]
    exact hi.numsOf
  rw [nums_intItems] at hn
  subst hn
  rw [e] at hl
  refine mnd_call (iter_intList hl fun s₂ e st hfp hlI => ?_)
  subst e
  refine ⟨_, _, _, _, _, _, _, rfl, Walks.list (A := A.in1) hh _ l hlI (intItems xs), st, hfp, CmpOf.ints_lt (numAt xs) (fun _ _ => intItems_at), fun hsz v h' tk hP hk => ?_, fun hz h' tk hk => ?_⟩
  · have hsz : 0 < xs.size := by simpa [intItems] using hsz
    have hv : (intItems xs)[argBest (fun i j => decide (numAt xs i < numAt xs j)) (xs.size - 1)]? = some v := by simpa [intItems] using hP
    obtain ⟨t, rfl⟩ := intItems_at hv
    obtain ⟨h1, h2⟩ := argBest_lt (numAt xs) (xs.size - 1)
    refine h h' tk _ t (old_kept hk) ?_ fun a ha => ?_
    · rw [numAt_eq]
      exact PySem.getD_mem (by rw [List.length_map, Array.length_toList]; omega)
    · obtain ⟨j, hj, rfl⟩ := mem_getD ha
      rw [List.length_map, Array.length_toList] at hj
      rw [← numAt_eq]
      exact h2 j (by omega)
  · refine h0 ?_ h' tk (old_kept hk)
    have hz : xs.size = 0 := by simpa [intItems] using hz
    rw [List.map_eq_nil_iff]
    exact List.eq_nil_of_length_eq_zero (by rw [Array.length_toList]; exact hz)
end
end G
namespace G
open PySem PySem.Spec PyProof.Rows L2
section
variable {X : Cx}
/-- min(xs, default=d) of a list of whole numbers -/
def rMinD (K : PySem.W.Frag) : List V → List V → Hp → VK → Prop := fun vs zs H Q => ∃ (a : Addr) (ns : List Int) (d : V), vs = [V.ref a] ∧ zs = [d] ∧ SqL K H a (ns.map V.int) ∧ (ns = [] → Q d H) ∧ ∀ m, m ∈ ns → (∀ y, y ∈ ns → m ≤ y) → Q (.int m) H
theorem cr_minD (hc : X.calm = true) : CallRK X (.builtin "min") [Str.ofString "default"] (rMinD X.K) := by
  intro pins s σ H vs zs us ws Q I r rz h
  obtain ⟨a, ns, d, rfl, rfl, hs, q0, q⟩ := h
  obtain ⟨its, rv, hl, _⟩ := I.list hs
  rw [Vals.ref1 r]
  obtain ⟨w1, rfl, e1⟩ := vals1 rz
  exact mnd_ints (I.ok.hd hc) hl.isList rv.ints (fun z h' tk hk => ⟨d, H, I.kept hk, e1, q0 z⟩) fun h' tk m t' hk h1 h2 => ⟨.int _, H, I.kept hk, ⟨_, rfl⟩, q m h1 h2⟩
/-- dict(d) -/
def rDictD : List V → Hp → VK → Prop := fun vs H Q => ∃ (a : Addr) (kvs : List (Key × V)), vs = [V.ref a] ∧ H a = some (.dK kvs) ∧ ∀ p, H p = none → Q (.ref p) (upd H p (.dK kvs))
theorem cr_dictD : CallR X (.type "dict") rDictD := by
  intro pins s σ H vs us Q I r h
  obtain ⟨a, kvs, rfl, ha, q⟩ := h
  rw [Vals.ref1 r]
  exact d_copyOf I (.of ha) fun p s' np I' => ⟨.ref p, _, I', rfl, q p np⟩
end
end G

/-! ## PRrulesB -/
/-! sorted(xs, key=lambda x: x.f) where x.f is a tuple of pairs of whole numbers. -/
namespace G
open PySem PySem.Spec PyProof.Rows L2
/-- a tuple of pairs of whole numbers, as data -/
def pd (p : Int × Int) : PyData := .tuple [.int p.1, .int p.2]
def kd (ps : List (Int × Int)) : PyData := .tuple (ps.map pd)
theorem alike_pd (p q : Int × Int) : PySem.W.alike (pd p) (pd q) = true := rfl
theorem alike_pds : ∀ ps qs : List (Int × Int), PySem.W.alikeAll (ps.map pd) (qs.map pd) = true
  | [], [] => rfl
  | [], _ :: _ => rfl
  | _ :: _, [] => rfl
  | p :: ps, q :: qs => by
    show (PySem.W.alike (pd p) (pd q) && PySem.W.alikeAll (ps.map pd) (qs.map pd)) = true
    rw [alike_pd, alike_pds ps qs]
    rfl
theorem alike_kd (ps qs : List (Int × Int)) : PySem.W.alike (kd ps) (kd qs) = true := alike_pds ps qs
theorem depth_pds : ∀ ps : List (Int × Int), PyData.depthAll (ps.map pd) ≤ 1
  | [] => Nat.zero_le _
  | p :: ps => by
    show max (PyData.depth (pd p)) (PyData.depthAll (ps.map pd)) ≤ 1
    exact Nat.max_le.mpr ⟨Nat.le_refl _, depth_pds ps⟩
theorem depth_kd (ps : List (Int × Int)) : (kd ps).depth ≤ 2 := Nat.succ_le_succ (depth_pds ps)
/-- the order of such data -/
def kltI (x y : Int × Int) : Prop := x.1 < y.1 ∨ (x.1 = y.1 ∧ x.2 < y.2)
instance (x y : Int × Int) : Decidable (kltI x y) := by unfold kltI; infer_instance
def ltI : List (Int × Int) → List (Int × Int) → Bool
  | [], [] => false
  | [], _ :: _ => true
  | _ :: _, [] => false
  | x :: l, y :: m => if x = y then ltI l m else decide (kltI x y)
theorem eqv_pd (p q : Int × Int) : PyData.eqv (pd p) (pd q) = decide (p = q) := by
  obtain ⟨a, b⟩ := p
  obtain ⟨c, d⟩ := q
  show (decide (a = c) && (decide (b = d) && true)) = decide ((a, b) = (c, d))
  by_cases h1 : a = c
  · by_cases h2 : b = d
    · simp [h1, h2]
    · simp [h1, h2]
  · simp [h1]
theorem rowLt_pd : ∀ ps qs : List (Int × Int), PySem.W.rowLt (ps.map pd) (qs.map pd) = ltI ps qs
  | [], [] => by decide +kernel
  | [], q :: qs => rfl
  | p :: ps, [] => rfl
  | p :: ps, q :: qs => by
    have e := PySem.W.dataLt_cons (alike_pd p q) (ps.map pd) (qs.map pd)
    show PySem.W.rowLt (pd p :: ps.map pd) (pd q :: qs.map pd) = (if p = q then ltI ps qs else decide (kltI p q))
    refine e.trans ?_
    rw [eqv_pd]
    by_cases h : p = q
    · rw [if_pos (decide_eq_true h), if_pos h]
      exact rowLt_pd ps qs
    · rw [if_neg (by rw [decide_eq_false h]; decide), if_neg h]
      exact PySem.W.dataLt_ii p.1 p.2 q.1 q.2
theorem dataLe_kd {β : Type} (k : β → List (Int × Int)) : PySem.W.dataLe false (fun b => kd (k b)) = fun a b => !ltI (k b) (k a) := by
  funext a b
  rw [PySem.W.dataLe_eq]
  show (!PySem.W.dataLt (kd (k b)) (kd (k a))) = _
  have e : PySem.W.dataLt (kd (k b)) (kd (k a)) = ltI (k b) (k a) := rowLt_pd (k b) (k a)
  rw [e]
/-- at t stands a tuple of pairs -/
def KeyAt (H : Hp) (t : Addr) (ps : List (Int × Int)) : Prop := ∃ ts : List Addr, H t = some (.tup (ts.map V.ref)) ∧ Paired (fun b (p : Int × Int) => H b = some (.tup [.int p.1, .int p.2])) ts ps
section
variable {prog : Program} {w : World} {A : Around} {E : Value → Shared → Prop} {s : Shared} {K : PySem.W.Frag}
/-- (lambda x: x.g)(a) -/
theorem lam_fld {f c' a dx C : Addr} {q x g : Str} {params : Arguments} {scope : Scope} {cl : List (Str × Addr)} {pm ctv u : Value} {p1 p2 : Pos} {mA : Str → Option Value} {Q : Value → Shared → Prop} (hdp : A.depth < recursionLimit) (X : K.In s.heap) (hn : s.heap.NoLimit)
    (hf : s.heap.get? f = some (PySem.W.kla_obj "<lambda>" q params (.Attribute (.Name x p1) g p2) scope cl pm c' ctv)) (hc : ∃ (oc : Obj) (vs : Array Value) (t : Tok), s.heap.get? c' = some oc ∧ oc.data = .fields vs ∧ vs[1]? = some (.str q t))
    (O : ObjM s.heap a dx C mA) (c : Cls K C) (no : NoAttr K C g) (hu : mA g = some u) (hh : PySem.W.handedIn u = true)
    (hk : scope.kind = .function) (hco : scope.isCoroutine = false) (hgen : scope.isGenerator = false) (hcell : ∀ y ∈ scope.names, y.2 ≠ .cell) (hx : scope.names.lookup x = some .local) (hdb : (x == ("__debug__" : Str)) = false)
    (hbind : ∀ v : Value, bindArgs (PySem.W.kla_fn "<lambda>" q params (.Attribute (.Name x p1) g p2) scope cl pm (.ref c') ctv) ⟨[v], []⟩ = pure [(x, v)])
    (hab : ∀ env : Env, attributeBase (.Name x p1) g env (eval (.Name x p1) env) = eval (.Name x p1) env)
    (h : ∀ h' tk, (∀ b o, s.heap.get? b = some o → h'.get? b = some o) → Q u { s with heap := h', toks := tk }) : wpAny (model prog w) A (call (.ref f) [.ref a]) Q E s := by
  obtain ⟨oc, vs, t, e1, e2, e3⟩ := hc
  refine wpAny_call (PySem.W.kla_callFunE hdp hf rfl hco hgen rfl ⟨c', oc, vs, t, rfl, e1, e2, e3⟩ ?_)
  rw [hbind]
  refine wpAny_pure (wpAny_newFunctionEnv hcell (fun y hy => ?_) (fun h₁ hns hsb => ⟨hn.fresh _ hsb, ?_⟩) hk)
  · rw [List.mem_singleton.mp hy]
    exact hx
  · have kp : ∀ b o, s.heap.get? b = some o → h₁.get? b = some o := fun b o e => hsb.extBut b o (Nat.ne_of_lt (Heap.lt_size e)) (Heap.get?_push_of_some _ e)
    have hv : ([(x, Value.ref a)] : List (Str × Value)).reverse.lookup x = some (.ref a) := by
      show List.lookup x [(x, Value.ref a)] = _
      simp [List.lookup]
    refine PySem.W.kla_codeExpr (attr_of (hab _) (wpAny_Name (wpAny_loadName_local hk hx hns hv ?_) hdb))
    have O1 : ObjM h₁ a dx C mA := by
      obtain ⟨o1, n1, z1⟩ := O
      exact ⟨kp _ _ o1, n1.at fun o e => kp _ _ e, z1⟩
    have X1 : K.In h₁ := fun b o e => kp b o (X b o e)
    exact get_map (s := { s with heap := h₁, toks := s.toks + ([(x, Value.ref a)] : List (Str × Value)).length }) X1 O1 (c.get g) c.hd no hu hh (h _ _ kp)
theorem reads_key {P : Program} {H : Hp} {h : Heap} (ok : HOk P w H h) : ∀ {ts : List Addr} {ps : List (Int × Int)} {us : List Value}, Paired (fun b (p : Int × Int) => H b = some (.tup [.int p.1, .int p.2])) ts ps → Vals (ts.map V.ref) us → ReadsAll h us (ps.map pd) []
  | _, _, _, .nil, r => by
    cases r
    exact .nil
  | _, _, _, .cons (a := b) (b := p) e t, r => by
    have r : Vals (V.ref b :: _) _ := r
    cases r with
    | cons r1 r2 =>
      cases r1
      obtain ⟨_, its, rv, o, ho, hc, n, hd⟩ := ok _ _ e
      obtain ⟨u1, u2, rfl, ri, rj⟩ := vals2 rv
      obtain ⟨t1, rfl⟩ := ri
      obtain ⟨t2, rfl⟩ := rj
      exact ReadsAll.cons (as := []) (bs := []) (Reads.tuple ho hc hd (ReadsAll.cons (as := []) (bs := []) (.int _ _) (ReadsAll.cons (as := []) (bs := []) (.int _ _) .nil))) (reads_key ok t r2)
theorem reads_kd {P : Program} {H : Hp} {h : Heap} (ok : HOk P w H h) {t : Addr} {ps : List (Int × Int)} (k : KeyAt H t ps) : Reads h (.ref t) (kd ps) [] := by
  obtain ⟨ts, e, hp⟩ := k
  obtain ⟨_, its, rv, o, ho, hc, n, hd⟩ := ok _ _ e
  exact Reads.tuple ho hc hd (reads_key ok hp (by simpa using rv))
end
section
variable {X : Cx} {pins : List (Addr × Obj)} {σ : L2.St} {H : Hp} {s : Shared}
/-- a lambda is made; of what is tracked nothing but its table at P is changed -/
theorem lam_new {c P : Addr} {q : Str} {params : Arguments} {body : Expr} {scope : Scope} {pos : Pos} {E : Value → Shared → Prop} {Q : Value → Shared → Prop} (J : Inv X pins σ H s) (TB : LamX.TabB X.base X.mg c P) (hcode : X.env.code = .ref c) (hq : q = X.env.qual ++ "<lambda>") (hT : LamX.TabS H P q)
    (hdef : defaultsOf params X.env = ([], [])) (hfree : ∀ y ∈ scope.names, y.2 = .free → ∃ c, X.env.cells.lookup y.1 = some c)
    (h : ∀ (f c' : Addr) (pm ctv : Value) (H1 : Hp) (s' : Shared), Inv X pins σ H1 s' → (∀ b o, H b = some o → b ≠ P → H1 b = some o) → LamX.TabS H1 P q →
      s'.heap.get? f = some (PySem.W.kla_obj "<lambda>" q params body scope (cloFrom X.env.cells scope.names []) pm c' ctv) → H1 c' = some (LamX.CodeO c' q) → Q (.ref f) s') :
    wpAny (model X.prog X.w) X.A (eval (.Lambda params body scope pos) X.env) Q E s := by
  subst hq
  obtain ⟨tb, eP, tok, tcode⟩ := hT
  refine PySem.W.kla_eval hdef ?_
  have bP : s.heap.BuiltinsAt X.mg P := TB.bm.keeps J.bk
  have oP : s.heap.get? P = some { cls := .none, data := .fields tb } := J.hok P _ eP
  cases hc : codeAmong pos tb.toList with
  | none =>
    refine PySem.W.kla_makeFunction (mg := X.mg) (c := c) (P := P) (ps := tb) (closure_ok hfree) J.ok.glob (J.mod.glob.keeps J.bk) hcode (TB.code.keeps J.bk) oP tok hc TB.gP bP fun c' ctv h' tk hx hge hlt hrec htb => ?_
    obtain ⟨c2, oc, us, t, e2, hoc, hd, hv⟩ := hrec
    cases e2
    have hC : H c' = none := J.hok.fresh hge
    have J1 := LamX.inv_table (t' := tk) (more := #[rawInt pos.line, rawInt pos.col, .ref c']) (h' := h'.push (PySem.W.kla_obj "<lambda>" (X.env.qual ++ "<lambda>") params body scope (cloFrom X.env.cells scope.names []) ((X.mg "__name__").getD .none) c' ctv)) J eP (fun b ob hb z => Heap.get?_push_of_some _ (hx b ob hb z)) (Heap.get?_push_of_some _ htb) hge ⟨oc, us, t, Heap.get?_push_of_some _ hoc, hd, hv⟩
    have old : ∀ b ob, H b = some ob → b ≠ P → (upd (upd H P (.tbl (tb ++ #[rawInt pos.line, rawInt pos.col, .ref c']))) c' (LamX.CodeO c' (X.env.qual ++ "<lambda>"))) b = some ob := fun b ob z hb => by
      rw [upd_ne (ne_of_none z hC), upd_ne hb]
      exact z
    have eL : (tb ++ #[rawInt pos.line, rawInt pos.col, .ref c']).toList = tb.toList ++ [rawInt pos.line, rawInt pos.col, .ref c'] := by simp
    refine h h'.objs.size c' ((X.mg "__name__").getD .none) ctv _ _ J1 old ⟨_, by rw [upd_ne (ne_of_none eP hC), upd_same], by rw [eL]; exact PySem.TriplesOk_snoc _ _ _ _ tok, fun p' cv hcv => ?_⟩ (Heap.get?_push_size _ rfl) upd_same
    rw [eL] at hcv
    rcases LamX.among_app _ tok hcv with z | z
    · obtain ⟨c0, y1, y2⟩ := tcode p' cv z
      refine ⟨c0, y1, old _ _ y2 fun y3 => ?_⟩
      rw [y3, eP] at y2
      exact LamX.codeO_ne tb (Option.some.inj y2).symm
    · exact ⟨c', z, upd_same⟩
  | some cv =>
    obtain ⟨c', ec, hco⟩ := tcode pos cv hc
    subst ec
    refine PySem.W.kla_makeFunctionHit (mg := X.mg) (c := c) (P := P) (ps := tb) (closure_ok hfree) J.ok.glob (J.mod.glob.keeps J.bk) hcode (TB.code.keeps J.bk) oP tok hc bP fun ctv h' tk hx hsz => ?_
    have J1 : Inv X pins σ H { s with heap := h'.push (PySem.W.kla_obj "<lambda>" (X.env.qual ++ "<lambda>") params body scope (cloFrom X.env.cells scope.names []) ((X.mg "__name__").getD .none) c' ctv), toks := tk } := J.kept fun b ob z => Heap.get?_push_of_some _ (hx b ob z)
    exact h h'.objs.size c' ((X.mg "__name__").getD .none) ctv H _ J1 (fun _ _ z _ => z) ⟨tb, eP, tok, tcode⟩ (Heap.get?_push_size _ rfl) hco
end
/-- what is asked of sorted(e, key=lambda x: x.g) -/
def tSortL (K : PySem.W.Frag) (P : Addr) (q : Str) (g : Str) (t : TA) : TE := fun σ H Q => t σ H fun vs H1 => ∃ (a : Addr) (rs : List Addr) (k : Addr → List (Int × Int)), vs = [.ref a] ∧ SqL K H1 a (rs.map V.ref) ∧
  (∀ r ∈ rs, k r ≠ [] ∧ ∃ C dx fs t, H1 r = some (.ins C dx fs) ∧ Cls K C ∧ NoAttr K C g ∧ fs.lookup g = some (.ref t) ∧ KeyAt H1 t (k r)) ∧ LamX.TabS H1 P q ∧
  ∀ H2 p, (∀ b o, H1 b = some o → b ≠ P → H2 b = some o) → LamX.TabS H2 P q → H2 p = none → Q (.ref p) (upd H2 p (.lst ((rs.mergeSort fun a b => !ltI (k b) (k a)).map V.ref)))
theorem vals_refs : ∀ (rs : List Addr), Vals (rs.map V.ref) (rs.map Value.ref)
  | [] => .nil
  | _ :: rs => .cons rfl (vals_refs rs)
theorem each_refs : ∀ {out : List Value} {rs : List Addr}, PySem.W.EachIs (fun v (r : Addr) => v = Value.ref r) out rs → out = rs.map Value.ref
  | _, _, .nil => rfl
  | _, _, .cons h t => by
    rw [h, each_refs t]
    rfl
theorem is_each : ∀ rs : List Addr, PySem.W.EachIs (fun v (r : Addr) => v = Value.ref r) (rs.map Value.ref) rs
  | [] => .nil
  | _ :: rs => .cons rfl (is_each rs)
section
variable {X : Cx}
theorem pe_sortL {c P : Addr} {q0 : Str} {k : Nat} {e : Expr} {t : TA} {x g : Str} {params : Arguments} {scope : Scope} {p pos kpos lpos p1 p2 : Pos} (hg : Gl X "sorted") (hm : X.mg "sorted" = none) (ha : PA X [e] t)
    (TB : LamX.TabB X.base X.mg c P) (hcode : X.env.code = .ref c) (hq0 : q0 = X.env.qual ++ "<lambda>") (hr : Room k X.A) (hdef : defaultsOf params X.env = ([], []))
    (hk : scope.kind = .function) (hco : scope.isCoroutine = false) (hgen : scope.isGenerator = false) (hcell : ∀ y ∈ scope.names, y.2 ≠ .cell) (hfree : ∀ y ∈ scope.names, y.2 ≠ .free) (hx : scope.names.lookup x = some .local) (hdb : (x == ("__debug__" : Str)) = false)
    (hbind : ∀ (q : Str) (cl : List (Str × Addr)) (pm cv ctv v : Value), bindArgs (PySem.W.kla_fn "<lambda>" q params (.Attribute (.Name x p1) g p2) scope cl pm cv ctv) ⟨[v], []⟩ = pure [(x, v)])
    (hab : ∀ env : Env, attributeBase (.Name x p1) g env (eval (.Name x p1) env) = eval (.Name x p1) env)
    (hs : backTo pos (starEach [e] X.env) = (false, eval e X.env) :: backTo pos (starEach [] X.env) := by rfl) (hpl : (backTo pos (starEach [e] X.env)).any (·.1) = false := by rfl) :
    PE X (.Call (.Name "sorted" p) [e] [⟨some "key", .Lambda params (.Attribute (.Name x p1) g p2) scope lpos, kpos⟩] pos) (tSortL X.K P q0 g t) := by
  refine ⟨fun pins s σ H Q I h => ?_⟩
  refine wpAny_Call_Name_kw (ld_blt (u := .builtin "sorted") I hg hm (by decide +kernel) ?_ (by decide) (by decide))
  refine PyProof.Rows.callWith_kw (thn (ha.run pos pins s σ H _ I h) fun us s1 ⟨vs, H1, I1, r1, q1⟩ => ?_) hs hpl (by rfl) (by rfl)
  show wpAny _ _ (evalAll [do let v ← eval (.Lambda params (.Attribute (.Name x p1) g p2) scope lpos) X.env; standAt pos; pure v]) _ _ s1
  obtain ⟨a, rs, kk, ex, hS, hK, hT, q⟩ := q1
  subst ex
  refine wpAny_evalAll_cons (wpAny_bind (lam_new I1 TB hcode hq0 hT hdef (fun y hy z => absurd z (hfree y hy)) fun f c' pm' ctv H2 s' I2 eP T2 hf hco' => wpAny_bind (wpAny_standAt (wpAny_pure (wpAny_evalAll_nil ?_)))))
  show wpAny _ _ (call (.builtin "sorted") us [(Str.ofString "key", Value.ref f)]) _ _ s'
  rw [Vals.ref1 r1]
  obtain ⟨tb, hP1, _⟩ := id hT
  have eN : ∀ b o, H1 b = some o → (∀ ps, o ≠ .tbl ps) → H2 b = some o := fun b o z hn => eP b o z fun y => by
    rw [y, hP1] at z
    exact hn tb (Option.some.inj z).symm
  have hS2 : SqL X.K H2 a (rs.map V.ref) := by
    rcases hS with (z | ⟨o, z⟩) | z
    · exact .inl (.inl (eN _ _ z (fun ps y => by cases y)))
    · exact .inl (.inr ⟨o, eN _ _ z (fun ps y => by cases y)⟩)
    · exact .inr z
  obtain ⟨its, rv, hl, hz⟩ := I2.list hS2
  have ei : its = rs.map Value.ref := refs_at rv
  subst ei
  rw [List.length_map] at hz
  obtain ⟨⟨oc, vs', t, hoc, hdc, hvc⟩, _, _⟩ := I2.hok c' _ hco'
  refine PySem.W.sorted_key_data (β := Addr) (bs := rs) (R := fun v r => v = Value.ref r) (b := false) (f := .ref f) (fun r => kd (kk r)) hl.isList (is_each rs) (PySem.W.AllAlike.of fun r r' => alike_kd _ _) (.inl fun d hd => ?_) hz
    (fun r _ => ?_) (PyProof.Rows.ksk_s1 _ _) (fun _ => PyProof.Rows.ksk_l1 _ _) (fun y => PyProof.Rows.ksk_t1 f y) (fun v r ev hr0 h1 tk kp => ?_) (fun out cc h' tk kp hfree' hD hlen hE => ?_)
  · obtain ⟨r, hr0, rfl⟩ := List.mem_map.mp hd
    obtain ⟨hne, _⟩ := hK r hr0
    cases hq : kk r with
    | nil => exact absurd hq hne
    | cons y l => exact ⟨pd y, l.map pd, rfl⟩
  · have h1 := depth_kd (kk r)
    have h2 := hr.un
    show X.A.units + 2 + (kd (kk r)).depth < cLine
    omega
  · subst ev
    obtain ⟨_, C, dx, fs, t0, e1, e2, e3, e4, e5⟩ := hK r hr0
    have e1' : H2 r = some (.ins C dx fs) := eN _ _ e1 (fun ps y => by cases y)
    obtain ⟨mA, O, ro, _, _, _⟩ := ins_get I2.hok e1'
    obtain ⟨u, hu1, ru⟩ := RelO.some_of (v := .ref t0) (o := mA g) (by rw [← e4]; exact ro g)
    obtain rfl : u = Value.ref t0 := ru
    have O1 : ObjM h1 r dx C mA := by
      obtain ⟨o1, n1, z1⟩ := O
      exact ⟨kp _ _ o1, n1.at fun o e => kp _ _ e, z1⟩
    have k5 : KeyAt H2 t0 (kk r) := by
      obtain ⟨ts, y1, y2⟩ := e5
      exact ⟨ts, eN _ _ y1 (fun ps y => by cases y), Paired.mapP y2 fun b p y => eN _ _ y (fun ps y => by cases y)⟩
    have rd := reads_kd I2.hok k5
    refine lam_fld (K := X.K) (s := { s' with heap := h1, toks := tk }) (c' := c') hr.depth (fun b o z => kp b o (I2.kIn b o z)) (I2.nolimit.keeps kp) (kp _ _ hf) ⟨oc, vs', t, kp _ _ hoc, hdc, hvc⟩ O1 e2 e3 hu1 rfl hk hco hgen hcell hx hdb (hbind _ _ _ _ _) hab fun h2 tk2 kp2 => ?_
    exact ⟨h2, tk2, rfl, kp2, PyProof.Rows.Reads.keeps (fun b o z => kp2 b o (kp b o z)) rd⟩
  · have eo := each_refs hE
    rw [dataLe_kd] at eo
    subst eo
    refine ⟨.ref _, upd H2 (s'.heap.objs.size + 1) (.lst ((rs.mergeSort fun a b => !ltI (kk b) (kk a)).map V.ref)), I2.laid (t' := tk) kp (Nat.le_succ _) ⟨?_, _, cc, vals_refs _, hD⟩, rfl, q _ _ eP T2 (I2.hok.fresh (Nat.le_succ _))⟩
    rw [List.length_map, List.length_mergeSort]
    exact hz
end
end G

/-! ## PRrulesC -/
/-! The end of a Spec row one of whose defs makes a lambda: the code object at c, its table at T. -/
namespace G
open PySem PySem.Spec PyProof.Rows L2
open PySem.W (OpenSpec Codec WData)
theorem spec_callT {P : Program} {w : World} {K : PySem.W.Frag} {mg mb : Str → Option Value} {CX : CXT} {k : Nat} {fa c T : Addr} {fd : FuncData} {ps : List Str} {sp : Sp} {s₁ : Shared} {vals : List Value} {ds : List WData} {R : PySem.W.WRecords} {cl : Str → Option Addr} {d0 : WData}
    (KX : K.In s₁.heap) (hns : s₁.heap.Ns mainGlobals mg) (hb : s₁.heap.Ns builtinsNs mb) (hbb : ∀ x : Str, x ≠ "__name__" → mb x = bootBuiltins x) (hlim : s₁.heap.NoLimit) (hg : s₁.gens = #[])
    (hT : s₁.heap.get? T = some { cls := .none, data := .fields #[] }) (nT : K.lookup T = none) (C : PySem.W.CodeHd s₁.heap c T)
    (hbm : ∃ (bm : Addr) (ob : Obj), mg "__builtins__" = some (.ref bm) ∧ bm ≠ builtinsNs ∧ s₁.heap.get? bm = some ob ∧ ob.cls = .type "module" ∧ ob.dict = some builtinsNs ∧ ob.data = .plain)
    (hwl : PySem.W.WellAll w.params s₁.heap vals ds) (hpl : plWs ds = true) (hwt : ∀ d ∈ ds, d.weight ≤ 1048576) (hr : Room k callerA)
    (F : ∀ base : Heap, K.In base → base.Ns mainGlobals mg → LamX.TabB base mg c T → FnOk P w K mg base CX k fa fd ps sp) (hbind : ∀ (s : Shared) (us : List Value), us.length = ps.length → BindsTo s fd ⟨us, []⟩ (ps.zip us)) (hlen : ds.length = ps.length)
    (hsp : ∀ (H0 H : Hp) (xs : List V), Same H0 H → H T = some (.tbl #[]) → DwAll K H0 xs ds → sp xs H (fun v H' => Dw K H' v d0) fun _ _ _ => False)
    (hCX : ∀ H e s', CX [] H s₁ (fun _ _ _ => False) e s' → False) :
    codeAny (model P w) callerA (.call (.ref fa) ⟨vals, []⟩) (fun r s' => ∃ u as, r = .ok (.ret u) ∧ PySem.W.ReadsW R cl s'.heap u d0 as ∧ OldK s₁.heap s'.heap ∧ s'.os = s₁.os ∧ AllBare s'.gens) s₁ := by
  obtain ⟨A, ho, ar⟩ := area_all ds vals hwl hpl hwt
  have hO : OnlyF (argH K s₁.heap A) := argH_only ar
  have hok0 : HOk P w (argH K s₁.heap A) s₁.heap := argH_ok ar
  have hS := dw_all KX ar ds vals hwl hpl ho
  have hV := vals_toV ho
  have hK : ∀ b u, argH K s₁.heap A b = some u → K.lookup b = none := fun b u q => (argH_is ar q).1
  have seqd : ∀ {b : Addr} {u : HO}, argH K s₁.heap A b = some u → ∃ (o : Obj) (vs : Array Value) (n : Nat), s₁.heap.get? b = some o ∧ o.data = .seq vs n := fun {b u} q => by
    obtain ⟨_, vs, _, _, ⟨e2, _⟩ | ⟨e2, _⟩⟩ := argH_is ar q
    · exact ⟨_, _, _, e2, rfl⟩
    · exact ⟨_, _, _, e2, rfl⟩
  have noS : ∀ {b : Addr} {o : Obj}, s₁.heap.get? b = some o → (∀ vs n, o.data ≠ .seq vs n) → argH K s₁.heap A b = none := fun {b o} e hd => by
    cases q : argH K s₁.heap A b with
    | none => rfl
    | some u =>
      obtain ⟨o2, vs, n, e2, d2⟩ := seqd q
      rw [e] at e2
      cases e2
      exact (hd vs n d2).elim
  have hAT : argH K s₁.heap A T = none := noS hT (fun vs n z => by cases z)
  generalize argH K s₁.heap A = H0 at hO hok0 hS hK noS hAT seqd
  let H : Hp := fun b => if b = T then some (.tbl #[]) else H0 b
  have HT : H T = some (.tbl #[]) := if_pos rfl
  have Hne : ∀ {b}, b ≠ T → H b = H0 b := fun hb => if_neg hb
  have sm : Same H0 H := fun b o q => by
    rw [Hne (ne_of_none q hAT)]
    exact q
  have hok : HOk P w H s₁.heap := fun b o q => by
    by_cases e : b = T
    · subst e
      rw [HT] at q
      cases q
      exact hT
    · rw [Hne e] at q
      exact (hok0 b o q).stay (fun _ _ _ z => z) (fun d z => sm _ _ z) fun d xs z => sm _ _ z
  have noH : ∀ {b : Addr} {o : Obj}, s₁.heap.get? b = some o → (∀ vs n, o.data ≠ .seq vs n) → o.data ≠ .fields #[] → H b = none := fun {b o} e h1 h2 => by
    have hb : b ≠ T := fun z => by
      rw [z, hT] at e
      cases e
      exact h2 rfl
    rw [Hne hb]
    exact noS e h1
  have base_of : ∀ {b : Addr} {o : Obj}, s₁.heap.get? b = some o → H b = none → (hidT s₁.heap H).get? b = some o := fun e n => hidT_get e n
  have nsK : ∀ {b : Addr} {m : Str → Option Value}, s₁.heap.Ns b m → (hidT s₁.heap H).Ns b m := fun {b m} ⟨o, es, ep, e, d, r⟩ => ⟨o, es, ep, base_of e (noH e (fun vs n z => by rw [d] at z; cases z) fun z => by rw [d] at z; cases z), d, r⟩
  have nK : ∀ b o, K.lookup b = some o → H b = none := fun b o e => by
    have hb : b ≠ T := fun z => by
      rw [z, nT] at e
      cases e
    rw [Hne hb]
    cases q : H0 b with
    | none => rfl
    | some u =>
      rw [hK b u q] at e
      cases e
  have hKb : K.In (hidT s₁.heap H) := fun b o e => base_of (KX b o e) (nK b o e)
  have hM : Mod K mg (hidT s₁.heap H) := ⟨hKb, nsK hns, ⟨mb, nsK hb, hbb⟩, let ⟨mc, h1, h2⟩ := hlim; ⟨mc, nsK h1, h2⟩⟩
  have TB : LamX.TabB (hidT s₁.heap H) mg c T := by
    refine ⟨?_, ?_, fun z => ?_⟩
    · obtain ⟨o, us, file, tf, flags, tg, inF, text, tt, e1, r1, r2, r3, r4, r5, r6, r7, r8, hne⟩ := C
      refine ⟨o, us, file, tf, flags, tg, inF, text, tt, base_of e1 (noH e1 (fun vs n z => ?_) fun z => ?_), r1, r2, r3, r4, r5, r6, r7, r8, hne⟩
      · rw [r2] at z
        cases z
      · rw [r2] at z
        cases z
        simp at r3
    · obtain ⟨bm, ob, b1, b2, b3, b4, b5, b6⟩ := hbm
      have nG : bm ≠ mainGlobals := fun q => by
        obtain ⟨o, es, ep, e, hd, _⟩ := hns
        rw [q, e] at b3
        cases b3
        rw [hd] at b6
        cases b6
      have nP : bm ≠ T := fun q => by
        rw [q, hT] at b3
        cases b3
        cases b6
      refine ⟨bm, ob, b1, b2, nG, nP, base_of b3 (noH b3 (fun vs n z => ?_) fun z => ?_), b4, b5, b6⟩
      · rw [b6] at z
        cases z
      · rw [b6] at z
        cases z
    · obtain ⟨o, es, ep, e, hd, _⟩ := hns
      rw [z, hT] at e
      cases e
      cases hd
  have e0 : Env0 P w K mg (hidT s₁.heap H) callerA [] s₁ H := ⟨rfl, hM, fun b o e => of_hidT e, Nat.le_of_eq (hidT_size _ _), trivial, fun b hb => absurd (show b ∈ ([] : List Addr) from hb) (by simp), hok, .of_eq hg⟩
  have hl : vals.length = ps.length := by
    rw [wellAll_len hwl]
    exact hlen
  refine codeAny_mono ((F _ hKb (nsK hns) TB).run callerA [] s₁ H ⟨vals, []⟩ vals (vals.map toV) _ _ hr e0 (hbind s₁ vals hl) hV (hsp H0 H _ sm HT hS)) fun r s' x => ?_
  cases r with
  | error e => exact (hCX H e s' x).elim
  | ok fl =>
    cases fl with
    | next => exact False.elim x
    | brk => exact False.elim x
    | cont => exact False.elim x
    | ret u =>
      obtain ⟨v, H', os, bare, un, hok', r', q⟩ := x
      have kept : ∀ b o, b ≠ T → s₁.heap.get? b = some o → s'.heap.get? b = some o := fun b o hbT e => by
        cases q2 : H b with
        | none => exact un.keep b o e q2 (by intro z; exact absurd (show b ∈ ([] : List Addr) from z) (by simp)) (by simp)
        | some u2 =>
          rw [Hne hbT] at q2
          rcases hO b with z | ⟨ob, u3, z⟩
          · rw [q2] at z
            cases z
          · have zH : H b = some (.frz ob u3) := sm _ _ z
            have z2 := un.frzs b ob _ zH
            obtain ⟨e1, _⟩ := hok b _ zH
            obtain ⟨e2, _⟩ := hok' b _ z2
            rw [e] at e1
            cases e1
            exact e2
      obtain ⟨more, hm0⟩ := un.tbls T #[] HT
      have hm : s'.heap.get? T = some { cls := .none, data := .fields (#[] ++ more) } := hok' T _ hm0
      have KX' : K.In s'.heap := fun b o e => kept b o (fun z => by rw [z, nT] at e; cases e) (KX b o e)
      obtain ⟨as, hrd⟩ := Dw.reads (R := R) (cl := cl) hok' KX' d0 v u q r'
      refine ⟨u, as, rfl, hrd, ⟨fun b o e => ?_, fun b o e => ?_⟩, os, bare⟩
      · by_cases hbT : b = T
        · subst hbT
          rw [hT] at e
          cases e
          exact .inr (.inl ⟨(C.tab hT).isCodeTable, rfl, #[], more, rfl, hm⟩)
        · exact .inl (kept b o hbT e)
      · by_cases hbT : b = T
        · subst hbT
          exact ⟨_, hm⟩
        · exact ⟨o, kept b o hbT e⟩
theorem walk_specT {r : OpenSpec} {k : Nat} {q : Program} {loose : List Str} {XP : (Str → Option Value) → Heap → Prop} {YP : World → Heap → Prop} {d : DefRec} {K : Params → PySem.W.Frag} {CX : CXT} {ps : List Str} {sp : PySem.W.Frag → Addr → Sp}
    (hwell : r.wellSaid = true) (hlen : r.args.length = ps.length) (hr : Room k callerA) (hY : ∀ (w : World) (h : Heap), YP w h → (K w.params).In h)
    (F : ∀ (w : World) (mg mb : Str → Option Value) (fa : Addr) (h : Heap) (ls : List Str) (mean : ExcName → Option Value), YP w h → (K w.params).In h → Top q ls mean mg mb h → mg d.name = some (.ref fa) →
      ∃ (fd : FuncData) (c T : Addr), h.get? T = some { cls := .none, data := .fields #[] } ∧ (K w.params).lookup T = none ∧ PySem.W.CodeHd h c T ∧ (∀ (s : Shared) (us : List Value), us.length = ps.length → BindsTo s fd ⟨us, []⟩ (ps.zip us)) ∧
        ∀ base : Heap, (K w.params).In base → base.Ns mainGlobals mg → LamX.TabB base mg c T → FnOk r.prog w (K w.params) mg base CX k fa fd ps (sp (K w.params) T))
    (hsp : ∀ (K : PySem.W.Frag) (T : Addr) (H0 H : Hp) (xs : List V) (a : Codec.denoteAll r.args), Same H0 H → H T = some (.tbl #[]) → Codec.withinAll r.args a = true → Codec.app r.args r.asked a = true → DwAll K H0 xs (Codec.encAll r.args a) →
      sp K T xs H (fun v H' => Dw K H' v (r.ret.enc (Codec.app r.args r.f a))) fun _ _ _ => False)
    (hCX : ∀ (H : Hp) (s : Shared) (e : Value) (s' : Shared), CX [] H s (fun _ _ _ => False) e s' → False) :
    PySem.W.WalkOS q loose XP YP r d [] (fun f vs => PySem.call f vs) := by
  intro w s₀ s₁ mg mb G Y fa o pm cd doc dV kV ho hd hcd hD hmg hg args vals as hpre hlay hrd hwl hlo
  obtain ⟨a, e1, e2⟩ := PySem.W.os_pre_some hpre
  obtain ⟨e3, hwi⟩ := Codec.encAll_of_decAll r.args args a e1
  subst e3
  have KX := hY w _ Y
  obtain ⟨fd, c, T, hT, nT, hC, hb, hF⟩ := F w mg mb fa _ _ _ Y KX G.T hmg
  refine PySem.W.enter_call (codeAny_mono (spec_callT (R := []) (cl := classAt s₀.heap) (d0 := r.ret.enc (Codec.app r.args r.f a)) KX G.T.g G.T.b G.T.builtins G.T.nolimit hg hT nT hC G.T.bmain hwl (pl_encAll _ _) (layable_weight hlay) hr hF hb (by rw [encAll_len]; exact hlen)
    (fun H0 H xs hs hH hS => hsp (K w.params) T H0 H xs a hs hH hwi e2 hS) fun H e s' => hCX H s₁ e s') fun r' s' hq => ?_)
  obtain ⟨u, as', rfl, h1, h2, h3, h4⟩ := hq
  exact ⟨.inl ⟨u, _, as', rfl, fun _ => rfl, h1, (OpenSpec.post_iff hwell hwi _ _).mpr rfl, fun z => Bool.noConfusion (show false = true from z)⟩, h2, h3, h4⟩
end G

/-! ## PRheap -/
/-! How the program's objects lie in the heap; the facts of its text. -/
namespace G
open PySem PySem.Spec PyProof.Rows L2
/-! ### the text -/
def top (i : Nat) : Stmt := PySem.Challenge.pw_patternruns_s01_answers.main.body.getD i (.Pass ⟨0, 0, 0, 0⟩)
/-! ### heaps: G, a part of H that is ours -/
theorem same_upd {G H : Hp} (s : Same G H) (p : Addr) (o : HO) : Same (upd G p o) (upd H p o) := fun b u e => by
  by_cases hb : b = p
  · subst hb
    rw [upd_same] at e ⊢
    exact e
  · rw [upd_ne hb] at e ⊢
    exact s b u e
theorem same_new {G H : Hp} (s : Same G H) {p : Addr} (n : G p = none) (o : HO) : Same G (upd H p o) := fun b u e => by
  rw [upd_ne (ne_of_none e n)]
  exact s b u e
theorem upd_id {H : Hp} {a : Addr} {o : HO} (h : H a = some o) : upd H a o = H := by
  funext b
  by_cases e : b = a
  · rw [e, upd_same, h]
  · rw [upd_ne e]
/-- from H with its part G to H' with G': all that was tracked stands, and what was outside of G is outside of G' -/
structure Fr (H G H' G' : Hp) : Prop where
  sub0 : Same G H
  all : Same H H'
  up : Same G G'
  sub : Same G' H'
  out : ∀ b, H b ≠ none → G b = none → G' b = none
theorem Fr.refl {H G : Hp} (s : Same G H) : Fr H G H G := ⟨s, Same.refl _, Same.refl _, s, fun _ _ h => h⟩
theorem Fr.trans {H G H1 G1 H2 G2 : Hp} (a : Fr H G H1 G1) (b : Fr H1 G1 H2 G2) : Fr H G H2 G2 := ⟨a.sub0, a.all.trans b.all, a.up.trans b.up, b.sub, fun x h1 h2 => b.out x (by
  cases e : H x with
  | none => exact absurd e h1
  | some o =>
    rw [a.all x o e]
    simp) (a.out x h1 h2)⟩
theorem Fr.new {H G H1 G1 : Hp} (a : Fr H G H1 G1) {p : Addr} (n : H1 p = none) (o : HO) : Fr H G (upd H1 p o) (upd G1 p o) :=
  ⟨a.sub0, same_new a.all (a.all.free n) o, same_new a.up (a.up.free (a.sub.free n)) o, same_upd a.sub p o, fun b h1 h2 => by
    have hb : b ≠ p := fun z => by
      rw [z] at h1
      exact h1 (a.all.free n)
    rw [upd_ne hb]
    exact a.out b h1 h2⟩
/-- a new object that is not ours -/
theorem Fr.only {H G H1 G1 : Hp} (a : Fr H G H1 G1) {p : Addr} (n : H1 p = none) (o : HO) : Fr H G (upd H1 p o) G1 :=
  ⟨a.sub0, same_new a.all (a.all.free n) o, a.up, same_new a.sub (a.sub.free n) o, a.out⟩
/-- a change of what stands neither in H nor in G1 -/
theorem Fr.poke {H G H1 G1 : Hp} (a : Fr H G H1 G1) {p : Addr} (n : H p = none) (n1 : G1 p = none) (o : HO) : Fr H G (upd H1 p o) G1 :=
  ⟨a.sub0, same_new a.all n o, a.up, same_new a.sub n1 o, a.out⟩
theorem Fr.more {H G H1 G1 H2 : Hp} (a : Fr H G H1 G1) (s : Same H1 H2) : Fr H G H2 G1 := ⟨a.sub0, a.all.trans s, a.up, a.sub.trans s, a.out⟩
/-- what is new becomes ours -/
theorem Fr.add {H G H1 G1 : Hp} (a : Fr H G H1 G1) {p : Addr} {u : HO} (n : H p = none) (h : H1 p = some u) : Fr H G H1 (upd G1 p u) :=
  ⟨a.sub0, a.all, same_new a.up (a.sub0.free n) u, fun b o e => by
    by_cases hb : b = p
    · subst hb
      rw [upd_same] at e
      cases e
      exact h
    · rw [upd_ne hb] at e
      exact a.sub b o e, fun b h1 h2 => by
    have hb : b ≠ p := fun z => by
      rw [z] at h1
      exact h1 n
    rw [upd_ne hb]
    exact a.out b h1 h2⟩
theorem Fr.keep {H G H1 G1 : Hp} (a : Fr H G H1 G1) {p : Addr} {o : HO} (h : H p = some o) : H1 p = some o := a.all p o h
theorem Fr.stay {H G H1 G1 : Hp} (a : Fr H G H1 G1) {p : Addr} {o : HO} (h : H p = some o) (n : G p = none) : G1 p = none := a.out p (by rw [h]; simp) n
/-- pairs under a growing heap -/
theorem pair_mono {α β : Type} {F E : α → β → Prop} {l : List α} {m : List β} (h : Paired F l m) (f : ∀ a b, F a b → E a b) : Paired E l m := Paired.mapP h f
theorem pair_get {α β : Type} {F : α → β → Prop} : ∀ {l : List α} {m : List β} {i : Nat} {a : α}, Paired F l m → l[i]? = some a → ∃ b, m[i]? = some b ∧ F a b
  | _, _, _, _, .nil, e => by simp at e
  | _, _, 0, _, .cons r _, e => by
    simp at e
    subst e
    exact ⟨_, rfl, r⟩
  | _, _, i + 1, a, .cons _ t, e => by
    obtain ⟨u, h1, h2⟩ := pair_get (i := i) (a := a) t (by simpa using e)
    exact ⟨u, by simpa using h1, h2⟩
theorem pair_get' {α β : Type} {F : α → β → Prop} : ∀ {l : List α} {m : List β} {i : Nat} {b : β}, Paired F l m → m[i]? = some b → ∃ a, l[i]? = some a ∧ F a b
  | _, _, _, _, .nil, e => by simp at e
  | _, _, 0, _, .cons r _, e => by
    simp at e
    subst e
    exact ⟨_, rfl, r⟩
  | _, _, i + 1, b, .cons _ t, e => by
    obtain ⟨u, h1, h2⟩ := pair_get' (i := i) (b := b) t (by simpa using e)
    exact ⟨u, by simpa using h1, h2⟩
theorem pair_snoc {α β : Type} {F : α → β → Prop} {a : α} {b : β} (h : F a b) : ∀ {l : List α} {m : List β}, Paired F l m → Paired F (l ++ [a]) (m ++ [b])
  | _, _, .nil => .cons h .nil
  | _, _, .cons r t => .cons r (pair_snoc h t)
theorem pair_app {α β : Type} {F : α → β → Prop} {l2 : List α} {m2 : List β} (h : Paired F l2 m2) : ∀ {l : List α} {m : List β}, Paired F l m → Paired F (l ++ l2) (m ++ m2)
  | _, _, .nil => h
  | _, _, .cons r t => .cons r (pair_app h t)
theorem pair_len {α β : Type} {F : α → β → Prop} : ∀ {l : List α} {m : List β}, Paired F l m → l.length = m.length
  | _, _, .nil => rfl
  | _, _, .cons _ t => congrArg (· + 1) (pair_len t)
theorem pair_take {α β : Type} {F : α → β → Prop} : ∀ {l : List α} {m : List β} (n : Nat), Paired F l m → Paired F (l.take n) (m.take n)
  | _, _, 0, _ => .nil
  | _, _, _ + 1, .nil => .nil
  | _, _, n + 1, .cons r t => .cons r (pair_take n t)
theorem pair_drop {α β : Type} {F : α → β → Prop} : ∀ {l : List α} {m : List β} (n : Nat), Paired F l m → Paired F (l.drop n) (m.drop n)
  | _, _, 0, h => h
  | _, _, _ + 1, .nil => .nil
  | _, _, n + 1, .cons _ t => pair_drop n t
theorem pair_mem {α β : Type} {F : α → β → Prop} : ∀ {l : List α} {m : List β} {a : α}, Paired F l m → a ∈ l → ∃ b, b ∈ m ∧ F a b
  | _, _, _, .nil, h => absurd h (by simp)
  | _, _, a, .cons (b := b) r t, h => by
    rcases List.mem_cons.mp h with e | e
    · exact ⟨b, List.mem_cons_self .., by rw [e]; exact r⟩
    · obtain ⟨x, h1, h2⟩ := pair_mem t e
      exact ⟨x, List.mem_cons_of_mem _ h1, h2⟩
/-! ### attributes -/
theorem lk_hit {k : Str} {v : V} {r : List (Str × V)} : List.lookup k ((k, v) :: r) = some v := by
  have e : (k == k) = true := beq_self_eq_true k
  simp only [List.lookup, e]
theorem lk_go {k g : Str} {v : V} {r : List (Str × V)} (h : (k == g) = false) : List.lookup k ((g, v) :: r) = List.lookup k r := by
  simp only [List.lookup, h]
theorem pf_hit {f : Str} {v x : V} {r : List (Str × V)} : putF f v ((f, x) :: r) = (f, v) :: r := if_pos rfl
theorem pf_go {f g : Str} {v x : V} {r : List (Str × V)} (h : ¬ g = f) : putF f v ((g, x) :: r) = (g, x) :: putF f v r := if_neg h
structure EvR where
  i : Nat
  k : Nat
  v : Nat
  t : Nat
structure RunR where
  t : Addr
  f : Addr
  l : Addr
  o : Addr
structure SkipR where
  way : Nat
  pivot : Nat
  shut : Nat
  b : Addr
structure DeskR where
  s : Addr
  limit : Nat
  k : Addr
  r : Addr
  came : Nat
  now : Nat
  told : Nat
/-- the classes' addresses -/
structure Cs where
  cS : Addr
  cE : Addr
  cR : Addr
  cK : Addr
  cD : Addr

def fsStage (x : Hs10.Stage) : List (Str × V) := [("form", .int (x.sort : Int)), ("follows", .int (x.follow : Int)), ("repeats", .int (x.inner : Int)), ("kind", .int (x.kind : Int)), ("test", .int (x.test : Int)), ("bound", .int (x.n : Int))]
def StageAt (c : Cs) (H : Hp) (a : Addr) (x : Hs10.Stage) : Prop := ∃ dx, H a = some (.ins c.cS dx (fsStage x))
theorem StageAt.same {c : Cs} {H H' : Hp} {a : Addr} {x : Hs10.Stage} (h : StageAt c H a x) (sm : Same H H') : StageAt c H' a x := let ⟨dx, e⟩ := h; ⟨dx, sm _ _ e⟩
theorem fsStage_form (x : Hs10.Stage) : (fsStage x).lookup ("form" : Str) = some (.int (x.sort : Int)) := lk_hit
theorem fsStage_follows (x : Hs10.Stage) : (fsStage x).lookup ("follows" : Str) = some (.int (x.follow : Int)) := (lk_go (by decide +kernel)).trans (lk_hit)
theorem fsStage_repeats (x : Hs10.Stage) : (fsStage x).lookup ("repeats" : Str) = some (.int (x.inner : Int)) := (lk_go (by decide +kernel)).trans ((lk_go (by decide +kernel)).trans (lk_hit))
theorem fsStage_kind (x : Hs10.Stage) : (fsStage x).lookup ("kind" : Str) = some (.int (x.kind : Int)) := (lk_go (by decide +kernel)).trans ((lk_go (by decide +kernel)).trans ((lk_go (by decide +kernel)).trans (lk_hit)))
theorem fsStage_test (x : Hs10.Stage) : (fsStage x).lookup ("test" : Str) = some (.int (x.test : Int)) := (lk_go (by decide +kernel)).trans ((lk_go (by decide +kernel)).trans ((lk_go (by decide +kernel)).trans ((lk_go (by decide +kernel)).trans (lk_hit))))
theorem fsStage_bound (x : Hs10.Stage) : (fsStage x).lookup ("bound" : Str) = some (.int (x.n : Int)) := (lk_go (by decide +kernel)).trans ((lk_go (by decide +kernel)).trans ((lk_go (by decide +kernel)).trans ((lk_go (by decide +kernel)).trans ((lk_go (by decide +kernel)).trans (lk_hit)))))
def fsEvent (e : EvR) : List (Str × V) := [("number", .int (e.i : Int)), ("kind", .int (e.k : Int)), ("value", .int (e.v : Int)), ("time", .int (e.t : Int))]
def EvAt (c : Cs) (H : Hp) (a : Addr) (e : EvR) : Prop := ∃ dx, H a = some (.ins c.cE dx (fsEvent e))
theorem EvAt.same {c : Cs} {H H' : Hp} {a : Addr} {e : EvR} (h : EvAt c H a e) (sm : Same H H') : EvAt c H' a e := let ⟨dx, e⟩ := h; ⟨dx, sm _ _ e⟩
theorem fsEvent_number (e : EvR) : (fsEvent e).lookup ("number" : Str) = some (.int (e.i : Int)) := lk_hit
theorem fsEvent_kind (e : EvR) : (fsEvent e).lookup ("kind" : Str) = some (.int (e.k : Int)) := (lk_go (by decide +kernel)).trans (lk_hit)
theorem fsEvent_value (e : EvR) : (fsEvent e).lookup ("value" : Str) = some (.int (e.v : Int)) := (lk_go (by decide +kernel)).trans ((lk_go (by decide +kernel)).trans (lk_hit))
theorem fsEvent_time (e : EvR) : (fsEvent e).lookup ("time" : Str) = some (.int (e.t : Int)) := (lk_go (by decide +kernel)).trans ((lk_go (by decide +kernel)).trans ((lk_go (by decide +kernel)).trans (lk_hit)))
def fsRun (r : RunR) : List (Str × V) := [("taken", .ref r.t), ("first", .ref r.f), ("last", .ref r.l), ("open_ones", .ref r.o)]
def RunO (c : Cs) (H : Hp) (a : Addr) (r : RunR) : Prop := ∃ dx, H a = some (.ins c.cR dx (fsRun r))
theorem RunO.same {c : Cs} {H H' : Hp} {a : Addr} {r : RunR} (h : RunO c H a r) (sm : Same H H') : RunO c H' a r := let ⟨dx, e⟩ := h; ⟨dx, sm _ _ e⟩
theorem fsRun_taken (r : RunR) : (fsRun r).lookup ("taken" : Str) = some (.ref r.t) := lk_hit
theorem fsRun_first (r : RunR) : (fsRun r).lookup ("first" : Str) = some (.ref r.f) := (lk_go (by decide +kernel)).trans (lk_hit)
theorem fsRun_last (r : RunR) : (fsRun r).lookup ("last" : Str) = some (.ref r.l) := (lk_go (by decide +kernel)).trans ((lk_go (by decide +kernel)).trans (lk_hit))
theorem fsRun_open_ones (r : RunR) : (fsRun r).lookup ("open_ones" : Str) = some (.ref r.o) := (lk_go (by decide +kernel)).trans ((lk_go (by decide +kernel)).trans ((lk_go (by decide +kernel)).trans (lk_hit)))
theorem fsRun_no_begin (r : RunR) : (fsRun r).lookup ("begin" : Str) = none := (lk_go (by decide +kernel)).trans ((lk_go (by decide +kernel)).trans ((lk_go (by decide +kernel)).trans ((lk_go (by decide +kernel)).trans (rfl))))
theorem fsRun_no_stage (r : RunR) : (fsRun r).lookup ("stage" : Str) = none := (lk_go (by decide +kernel)).trans ((lk_go (by decide +kernel)).trans ((lk_go (by decide +kernel)).trans ((lk_go (by decide +kernel)).trans (rfl))))
def fsSkip (s : SkipR) : List (Str × V) := [("way", .int (s.way : Int)), ("pivot", .int (s.pivot : Int)), ("shut_to", .int (s.shut : Int)), ("shut_begins", .ref s.b)]
def SkipO (c : Cs) (H : Hp) (a : Addr) (s : SkipR) : Prop := ∃ dx, H a = some (.ins c.cK dx (fsSkip s))
theorem SkipO.same {c : Cs} {H H' : Hp} {a : Addr} {s : SkipR} (h : SkipO c H a s) (sm : Same H H') : SkipO c H' a s := let ⟨dx, e⟩ := h; ⟨dx, sm _ _ e⟩
theorem fsSkip_way (s : SkipR) : (fsSkip s).lookup ("way" : Str) = some (.int (s.way : Int)) := lk_hit
theorem fsSkip_pivot (s : SkipR) : (fsSkip s).lookup ("pivot" : Str) = some (.int (s.pivot : Int)) := (lk_go (by decide +kernel)).trans (lk_hit)
theorem fsSkip_shut_to (s : SkipR) : (fsSkip s).lookup ("shut_to" : Str) = some (.int (s.shut : Int)) := (lk_go (by decide +kernel)).trans ((lk_go (by decide +kernel)).trans (lk_hit))
theorem fsSkip_shut_begins (s : SkipR) : (fsSkip s).lookup ("shut_begins" : Str) = some (.ref s.b) := (lk_go (by decide +kernel)).trans ((lk_go (by decide +kernel)).trans ((lk_go (by decide +kernel)).trans (lk_hit)))
theorem fsSkip_no_copied (s : SkipR) : (fsSkip s).lookup ("copied" : Str) = none := (lk_go (by decide +kernel)).trans ((lk_go (by decide +kernel)).trans ((lk_go (by decide +kernel)).trans ((lk_go (by decide +kernel)).trans (rfl))))
theorem fsSkip_no_is_shut (s : SkipR) : (fsSkip s).lookup ("is_shut" : Str) = none := (lk_go (by decide +kernel)).trans ((lk_go (by decide +kernel)).trans ((lk_go (by decide +kernel)).trans ((lk_go (by decide +kernel)).trans (rfl))))
theorem fsSkip_no_pivot_event (s : SkipR) : (fsSkip s).lookup ("pivot_event" : Str) = none := (lk_go (by decide +kernel)).trans ((lk_go (by decide +kernel)).trans ((lk_go (by decide +kernel)).trans ((lk_go (by decide +kernel)).trans (rfl))))
theorem fsSkip_no_tell (s : SkipR) : (fsSkip s).lookup ("tell" : Str) = none := (lk_go (by decide +kernel)).trans ((lk_go (by decide +kernel)).trans ((lk_go (by decide +kernel)).trans ((lk_go (by decide +kernel)).trans (rfl))))
def fsDesk (d : DeskR) : List (Str × V) := [("stages", .ref d.s), ("limit", .int (d.limit : Int)), ("skip", .ref d.k), ("kept", .ref d.r), ("came", .int (d.came : Int)), ("now", .int (d.now : Int)), ("many_told", .int (d.told : Int))]
def DeskO (c : Cs) (H : Hp) (a : Addr) (d : DeskR) : Prop := ∃ dx, H a = some (.ins c.cD dx (fsDesk d))
theorem DeskO.same {c : Cs} {H H' : Hp} {a : Addr} {d : DeskR} (h : DeskO c H a d) (sm : Same H H') : DeskO c H' a d := let ⟨dx, e⟩ := h; ⟨dx, sm _ _ e⟩
theorem fsDesk_stages (d : DeskR) : (fsDesk d).lookup ("stages" : Str) = some (.ref d.s) := lk_hit
theorem fsDesk_limit (d : DeskR) : (fsDesk d).lookup ("limit" : Str) = some (.int (d.limit : Int)) := (lk_go (by decide +kernel)).trans (lk_hit)
theorem fsDesk_skip (d : DeskR) : (fsDesk d).lookup ("skip" : Str) = some (.ref d.k) := (lk_go (by decide +kernel)).trans ((lk_go (by decide +kernel)).trans (lk_hit))
theorem fsDesk_kept (d : DeskR) : (fsDesk d).lookup ("kept" : Str) = some (.ref d.r) := (lk_go (by decide +kernel)).trans ((lk_go (by decide +kernel)).trans ((lk_go (by decide +kernel)).trans (lk_hit)))
theorem fsDesk_came (d : DeskR) : (fsDesk d).lookup ("came" : Str) = some (.int (d.came : Int)) := (lk_go (by decide +kernel)).trans ((lk_go (by decide +kernel)).trans ((lk_go (by decide +kernel)).trans ((lk_go (by decide +kernel)).trans (lk_hit))))
theorem fsDesk_now (d : DeskR) : (fsDesk d).lookup ("now" : Str) = some (.int (d.now : Int)) := (lk_go (by decide +kernel)).trans ((lk_go (by decide +kernel)).trans ((lk_go (by decide +kernel)).trans ((lk_go (by decide +kernel)).trans ((lk_go (by decide +kernel)).trans (lk_hit)))))
theorem fsDesk_many_told (d : DeskR) : (fsDesk d).lookup ("many_told" : Str) = some (.int (d.told : Int)) := (lk_go (by decide +kernel)).trans ((lk_go (by decide +kernel)).trans ((lk_go (by decide +kernel)).trans ((lk_go (by decide +kernel)).trans ((lk_go (by decide +kernel)).trans ((lk_go (by decide +kernel)).trans (lk_hit))))))
theorem fsDesk_no_pattern (d : DeskR) : (fsDesk d).lookup ("pattern" : Str) = none := (lk_go (by decide +kernel)).trans ((lk_go (by decide +kernel)).trans ((lk_go (by decide +kernel)).trans ((lk_go (by decide +kernel)).trans ((lk_go (by decide +kernel)).trans ((lk_go (by decide +kernel)).trans ((lk_go (by decide +kernel)).trans (rfl)))))))
theorem fsDesk_no_new_runs (d : DeskR) : (fsDesk d).lookup ("new_runs" : Str) = none := (lk_go (by decide +kernel)).trans ((lk_go (by decide +kernel)).trans ((lk_go (by decide +kernel)).trans ((lk_go (by decide +kernel)).trans ((lk_go (by decide +kernel)).trans ((lk_go (by decide +kernel)).trans ((lk_go (by decide +kernel)).trans (rfl)))))))
theorem fsDesk_no_event (d : DeskR) : (fsDesk d).lookup ("event" : Str) = none := (lk_go (by decide +kernel)).trans ((lk_go (by decide +kernel)).trans ((lk_go (by decide +kernel)).trans ((lk_go (by decide +kernel)).trans ((lk_go (by decide +kernel)).trans ((lk_go (by decide +kernel)).trans ((lk_go (by decide +kernel)).trans (rfl)))))))
theorem fsDesk_no_runs (d : DeskR) : (fsDesk d).lookup ("runs" : Str) = none := (lk_go (by decide +kernel)).trans ((lk_go (by decide +kernel)).trans ((lk_go (by decide +kernel)).trans ((lk_go (by decide +kernel)).trans ((lk_go (by decide +kernel)).trans ((lk_go (by decide +kernel)).trans ((lk_go (by decide +kernel)).trans (rfl)))))))
theorem fsDesk_no_counts (d : DeskR) : (fsDesk d).lookup ("counts" : Str) = none := (lk_go (by decide +kernel)).trans ((lk_go (by decide +kernel)).trans ((lk_go (by decide +kernel)).trans ((lk_go (by decide +kernel)).trans ((lk_go (by decide +kernel)).trans ((lk_go (by decide +kernel)).trans ((lk_go (by decide +kernel)).trans (rfl)))))))
theorem fsDesk_no_earliest (d : DeskR) : (fsDesk d).lookup ("earliest" : Str) = none := (lk_go (by decide +kernel)).trans ((lk_go (by decide +kernel)).trans ((lk_go (by decide +kernel)).trans ((lk_go (by decide +kernel)).trans ((lk_go (by decide +kernel)).trans ((lk_go (by decide +kernel)).trans ((lk_go (by decide +kernel)).trans (rfl)))))))
/-- what the top has written of the classes -/
structure Txt (K : PySem.W.Frag) (c : Cs) : Prop where
  clStage : Cls K c.cS
  nStage_form : NoAttr K c.cS "form"
  nStage_follows : NoAttr K c.cS "follows"
  nStage_repeats : NoAttr K c.cS "repeats"
  nStage_kind : NoAttr K c.cS "kind"
  nStage_test : NoAttr K c.cS "test"
  nStage_bound : NoAttr K c.cS "bound"
  clEvent : Cls K c.cE
  nEvent_number : NoAttr K c.cE "number"
  nEvent_kind : NoAttr K c.cE "kind"
  nEvent_value : NoAttr K c.cE "value"
  nEvent_time : NoAttr K c.cE "time"
  clRun : Cls K c.cR
  nRun_taken : NoAttr K c.cR "taken"
  nRun_first : NoAttr K c.cR "first"
  nRun_last : NoAttr K c.cR "last"
  nRun_open_ones : NoAttr K c.cR "open_ones"
  clSkip : Cls K c.cK
  nSkip_way : NoAttr K c.cK "way"
  nSkip_pivot : NoAttr K c.cK "pivot"
  nSkip_shut_to : NoAttr K c.cK "shut_to"
  nSkip_shut_begins : NoAttr K c.cK "shut_begins"
  clDesk : Cls K c.cD
  nDesk_stages : NoAttr K c.cD "stages"
  nDesk_limit : NoAttr K c.cD "limit"
  nDesk_skip : NoAttr K c.cD "skip"
  nDesk_kept : NoAttr K c.cD "kept"
  nDesk_came : NoAttr K c.cD "came"
  nDesk_now : NoAttr K c.cD "now"
  nDesk_many_told : NoAttr K c.cD "many_told"
section
variable {K : PySem.W.Frag} {c : Cs} {H : Hp} {a : Addr} {Q : V → Prop}
theorem Txt.stage_form (T : Txt K c) {x : Hs10.Stage} (h : StageAt c H a x) (q : Q (.int (x.sort : Int))) : ∃ a' C dx fs v, V.ref a = V.ref a' ∧ H a' = some (.ins C dx fs) ∧ Cls K C ∧ NoAttr K C "form" ∧ fs.lookup ("form" : Str) = some v ∧ Q v := let ⟨dx, eh⟩ := h; ⟨a, c.cS, dx, _, _, rfl, eh, T.clStage, T.nStage_form, fsStage_form x, q⟩
theorem Txt.stage_follows (T : Txt K c) {x : Hs10.Stage} (h : StageAt c H a x) (q : Q (.int (x.follow : Int))) : ∃ a' C dx fs v, V.ref a = V.ref a' ∧ H a' = some (.ins C dx fs) ∧ Cls K C ∧ NoAttr K C "follows" ∧ fs.lookup ("follows" : Str) = some v ∧ Q v := let ⟨dx, eh⟩ := h; ⟨a, c.cS, dx, _, _, rfl, eh, T.clStage, T.nStage_follows, fsStage_follows x, q⟩
theorem Txt.stage_repeats (T : Txt K c) {x : Hs10.Stage} (h : StageAt c H a x) (q : Q (.int (x.inner : Int))) : ∃ a' C dx fs v, V.ref a = V.ref a' ∧ H a' = some (.ins C dx fs) ∧ Cls K C ∧ NoAttr K C "repeats" ∧ fs.lookup ("repeats" : Str) = some v ∧ Q v := let ⟨dx, eh⟩ := h; ⟨a, c.cS, dx, _, _, rfl, eh, T.clStage, T.nStage_repeats, fsStage_repeats x, q⟩
theorem Txt.stage_kind (T : Txt K c) {x : Hs10.Stage} (h : StageAt c H a x) (q : Q (.int (x.kind : Int))) : ∃ a' C dx fs v, V.ref a = V.ref a' ∧ H a' = some (.ins C dx fs) ∧ Cls K C ∧ NoAttr K C "kind" ∧ fs.lookup ("kind" : Str) = some v ∧ Q v := let ⟨dx, eh⟩ := h; ⟨a, c.cS, dx, _, _, rfl, eh, T.clStage, T.nStage_kind, fsStage_kind x, q⟩
theorem Txt.stage_test (T : Txt K c) {x : Hs10.Stage} (h : StageAt c H a x) (q : Q (.int (x.test : Int))) : ∃ a' C dx fs v, V.ref a = V.ref a' ∧ H a' = some (.ins C dx fs) ∧ Cls K C ∧ NoAttr K C "test" ∧ fs.lookup ("test" : Str) = some v ∧ Q v := let ⟨dx, eh⟩ := h; ⟨a, c.cS, dx, _, _, rfl, eh, T.clStage, T.nStage_test, fsStage_test x, q⟩
theorem Txt.stage_bound (T : Txt K c) {x : Hs10.Stage} (h : StageAt c H a x) (q : Q (.int (x.n : Int))) : ∃ a' C dx fs v, V.ref a = V.ref a' ∧ H a' = some (.ins C dx fs) ∧ Cls K C ∧ NoAttr K C "bound" ∧ fs.lookup ("bound" : Str) = some v ∧ Q v := let ⟨dx, eh⟩ := h; ⟨a, c.cS, dx, _, _, rfl, eh, T.clStage, T.nStage_bound, fsStage_bound x, q⟩
theorem Txt.event_number (T : Txt K c) {e : EvR} (h : EvAt c H a e) (q : Q (.int (e.i : Int))) : ∃ a' C dx fs v, V.ref a = V.ref a' ∧ H a' = some (.ins C dx fs) ∧ Cls K C ∧ NoAttr K C "number" ∧ fs.lookup ("number" : Str) = some v ∧ Q v := let ⟨dx, eh⟩ := h; ⟨a, c.cE, dx, _, _, rfl, eh, T.clEvent, T.nEvent_number, fsEvent_number e, q⟩
theorem Txt.event_kind (T : Txt K c) {e : EvR} (h : EvAt c H a e) (q : Q (.int (e.k : Int))) : ∃ a' C dx fs v, V.ref a = V.ref a' ∧ H a' = some (.ins C dx fs) ∧ Cls K C ∧ NoAttr K C "kind" ∧ fs.lookup ("kind" : Str) = some v ∧ Q v := let ⟨dx, eh⟩ := h; ⟨a, c.cE, dx, _, _, rfl, eh, T.clEvent, T.nEvent_kind, fsEvent_kind e, q⟩
theorem Txt.event_value (T : Txt K c) {e : EvR} (h : EvAt c H a e) (q : Q (.int (e.v : Int))) : ∃ a' C dx fs v, V.ref a = V.ref a' ∧ H a' = some (.ins C dx fs) ∧ Cls K C ∧ NoAttr K C "value" ∧ fs.lookup ("value" : Str) = some v ∧ Q v := let ⟨dx, eh⟩ := h; ⟨a, c.cE, dx, _, _, rfl, eh, T.clEvent, T.nEvent_value, fsEvent_value e, q⟩
theorem Txt.event_time (T : Txt K c) {e : EvR} (h : EvAt c H a e) (q : Q (.int (e.t : Int))) : ∃ a' C dx fs v, V.ref a = V.ref a' ∧ H a' = some (.ins C dx fs) ∧ Cls K C ∧ NoAttr K C "time" ∧ fs.lookup ("time" : Str) = some v ∧ Q v := let ⟨dx, eh⟩ := h; ⟨a, c.cE, dx, _, _, rfl, eh, T.clEvent, T.nEvent_time, fsEvent_time e, q⟩
theorem Txt.run_taken (T : Txt K c) {r : RunR} (h : RunO c H a r) (q : Q (.ref r.t)) : ∃ a' C dx fs v, V.ref a = V.ref a' ∧ H a' = some (.ins C dx fs) ∧ Cls K C ∧ NoAttr K C "taken" ∧ fs.lookup ("taken" : Str) = some v ∧ Q v := let ⟨dx, eh⟩ := h; ⟨a, c.cR, dx, _, _, rfl, eh, T.clRun, T.nRun_taken, fsRun_taken r, q⟩
theorem Txt.run_first (T : Txt K c) {r : RunR} (h : RunO c H a r) (q : Q (.ref r.f)) : ∃ a' C dx fs v, V.ref a = V.ref a' ∧ H a' = some (.ins C dx fs) ∧ Cls K C ∧ NoAttr K C "first" ∧ fs.lookup ("first" : Str) = some v ∧ Q v := let ⟨dx, eh⟩ := h; ⟨a, c.cR, dx, _, _, rfl, eh, T.clRun, T.nRun_first, fsRun_first r, q⟩
theorem Txt.run_last (T : Txt K c) {r : RunR} (h : RunO c H a r) (q : Q (.ref r.l)) : ∃ a' C dx fs v, V.ref a = V.ref a' ∧ H a' = some (.ins C dx fs) ∧ Cls K C ∧ NoAttr K C "last" ∧ fs.lookup ("last" : Str) = some v ∧ Q v := let ⟨dx, eh⟩ := h; ⟨a, c.cR, dx, _, _, rfl, eh, T.clRun, T.nRun_last, fsRun_last r, q⟩
theorem Txt.run_open_ones (T : Txt K c) {r : RunR} (h : RunO c H a r) (q : Q (.ref r.o)) : ∃ a' C dx fs v, V.ref a = V.ref a' ∧ H a' = some (.ins C dx fs) ∧ Cls K C ∧ NoAttr K C "open_ones" ∧ fs.lookup ("open_ones" : Str) = some v ∧ Q v := let ⟨dx, eh⟩ := h; ⟨a, c.cR, dx, _, _, rfl, eh, T.clRun, T.nRun_open_ones, fsRun_open_ones r, q⟩
theorem Txt.skip_way (T : Txt K c) {s : SkipR} (h : SkipO c H a s) (q : Q (.int (s.way : Int))) : ∃ a' C dx fs v, V.ref a = V.ref a' ∧ H a' = some (.ins C dx fs) ∧ Cls K C ∧ NoAttr K C "way" ∧ fs.lookup ("way" : Str) = some v ∧ Q v := let ⟨dx, eh⟩ := h; ⟨a, c.cK, dx, _, _, rfl, eh, T.clSkip, T.nSkip_way, fsSkip_way s, q⟩
theorem Txt.skip_pivot (T : Txt K c) {s : SkipR} (h : SkipO c H a s) (q : Q (.int (s.pivot : Int))) : ∃ a' C dx fs v, V.ref a = V.ref a' ∧ H a' = some (.ins C dx fs) ∧ Cls K C ∧ NoAttr K C "pivot" ∧ fs.lookup ("pivot" : Str) = some v ∧ Q v := let ⟨dx, eh⟩ := h; ⟨a, c.cK, dx, _, _, rfl, eh, T.clSkip, T.nSkip_pivot, fsSkip_pivot s, q⟩
theorem Txt.skip_shut_to (T : Txt K c) {s : SkipR} (h : SkipO c H a s) (q : Q (.int (s.shut : Int))) : ∃ a' C dx fs v, V.ref a = V.ref a' ∧ H a' = some (.ins C dx fs) ∧ Cls K C ∧ NoAttr K C "shut_to" ∧ fs.lookup ("shut_to" : Str) = some v ∧ Q v := let ⟨dx, eh⟩ := h; ⟨a, c.cK, dx, _, _, rfl, eh, T.clSkip, T.nSkip_shut_to, fsSkip_shut_to s, q⟩
theorem Txt.skip_shut_begins (T : Txt K c) {s : SkipR} (h : SkipO c H a s) (q : Q (.ref s.b)) : ∃ a' C dx fs v, V.ref a = V.ref a' ∧ H a' = some (.ins C dx fs) ∧ Cls K C ∧ NoAttr K C "shut_begins" ∧ fs.lookup ("shut_begins" : Str) = some v ∧ Q v := let ⟨dx, eh⟩ := h; ⟨a, c.cK, dx, _, _, rfl, eh, T.clSkip, T.nSkip_shut_begins, fsSkip_shut_begins s, q⟩
theorem Txt.desk_stages (T : Txt K c) {d : DeskR} (h : DeskO c H a d) (q : Q (.ref d.s)) : ∃ a' C dx fs v, V.ref a = V.ref a' ∧ H a' = some (.ins C dx fs) ∧ Cls K C ∧ NoAttr K C "stages" ∧ fs.lookup ("stages" : Str) = some v ∧ Q v := let ⟨dx, eh⟩ := h; ⟨a, c.cD, dx, _, _, rfl, eh, T.clDesk, T.nDesk_stages, fsDesk_stages d, q⟩
theorem Txt.desk_limit (T : Txt K c) {d : DeskR} (h : DeskO c H a d) (q : Q (.int (d.limit : Int))) : ∃ a' C dx fs v, V.ref a = V.ref a' ∧ H a' = some (.ins C dx fs) ∧ Cls K C ∧ NoAttr K C "limit" ∧ fs.lookup ("limit" : Str) = some v ∧ Q v := let ⟨dx, eh⟩ := h; ⟨a, c.cD, dx, _, _, rfl, eh, T.clDesk, T.nDesk_limit, fsDesk_limit d, q⟩
theorem Txt.desk_skip (T : Txt K c) {d : DeskR} (h : DeskO c H a d) (q : Q (.ref d.k)) : ∃ a' C dx fs v, V.ref a = V.ref a' ∧ H a' = some (.ins C dx fs) ∧ Cls K C ∧ NoAttr K C "skip" ∧ fs.lookup ("skip" : Str) = some v ∧ Q v := let ⟨dx, eh⟩ := h; ⟨a, c.cD, dx, _, _, rfl, eh, T.clDesk, T.nDesk_skip, fsDesk_skip d, q⟩
theorem Txt.desk_kept (T : Txt K c) {d : DeskR} (h : DeskO c H a d) (q : Q (.ref d.r)) : ∃ a' C dx fs v, V.ref a = V.ref a' ∧ H a' = some (.ins C dx fs) ∧ Cls K C ∧ NoAttr K C "kept" ∧ fs.lookup ("kept" : Str) = some v ∧ Q v := let ⟨dx, eh⟩ := h; ⟨a, c.cD, dx, _, _, rfl, eh, T.clDesk, T.nDesk_kept, fsDesk_kept d, q⟩
theorem Txt.desk_came (T : Txt K c) {d : DeskR} (h : DeskO c H a d) (q : Q (.int (d.came : Int))) : ∃ a' C dx fs v, V.ref a = V.ref a' ∧ H a' = some (.ins C dx fs) ∧ Cls K C ∧ NoAttr K C "came" ∧ fs.lookup ("came" : Str) = some v ∧ Q v := let ⟨dx, eh⟩ := h; ⟨a, c.cD, dx, _, _, rfl, eh, T.clDesk, T.nDesk_came, fsDesk_came d, q⟩
theorem Txt.desk_now (T : Txt K c) {d : DeskR} (h : DeskO c H a d) (q : Q (.int (d.now : Int))) : ∃ a' C dx fs v, V.ref a = V.ref a' ∧ H a' = some (.ins C dx fs) ∧ Cls K C ∧ NoAttr K C "now" ∧ fs.lookup ("now" : Str) = some v ∧ Q v := let ⟨dx, eh⟩ := h; ⟨a, c.cD, dx, _, _, rfl, eh, T.clDesk, T.nDesk_now, fsDesk_now d, q⟩
theorem Txt.desk_many_told (T : Txt K c) {d : DeskR} (h : DeskO c H a d) (q : Q (.int (d.told : Int))) : ∃ a' C dx fs v, V.ref a = V.ref a' ∧ H a' = some (.ins C dx fs) ∧ Cls K C ∧ NoAttr K C "many_told" ∧ fs.lookup ("many_told" : Str) = some v ∧ Q v := let ⟨dx, eh⟩ := h; ⟨a, c.cD, dx, _, _, rfl, eh, T.clDesk, T.nDesk_many_told, fsDesk_many_told d, q⟩
end
/-! ### stages, runs -/
abbrev I (n : Nat) : V := .int (n : Int)
/-- a list of the stages xs -/
def StagesAt (c : Cs) (H : Hp) (a : Addr) (xs : List Hs10.Stage) : Prop := ∃ as : List Addr, H a = some (.lst (as.map V.ref)) ∧ Paired (fun b x => StageAt c H b x) as xs
theorem StagesAt.same {c : Cs} {H H' : Hp} {a : Addr} {xs : List Hs10.Stage} (h : StagesAt c H a xs) (s : Same H H') : StagesAt c H' a xs :=
  let ⟨as, e, p⟩ := h
  ⟨as, s _ _ e, pair_mono p fun _ _ h => h.same s⟩
theorem KeyAt.same {H H' : Hp} {t : Addr} {ps : List (Int × Int)} (h : KeyAt H t ps) (s : Same H H') : KeyAt H' t ps :=
  let ⟨ts, e, p⟩ := h
  ⟨ts, s _ _ e, pair_mono p fun _ _ h => s _ _ h⟩
/-- a path, as the program's tuple has it -/
def pk (y : Hs10.Taken) : Int × Int := ((y.at_ : Int), ((y.stage + 1 : Nat) : Int))
/-- a run -/
structure RunIs (c : Cs) (H : Hp) (q : RunR) (r : Hs10.Run) (y z : Hs10.Taken) (k1 k2 : Nat) : Prop where
  key : KeyAt H q.t (r.path.map pk)
  hd : r.path.head? = some y
  lt : r.path.getLast? = some z
  first : EvAt c H q.f ⟨y.at_, k1, y.value, y.time⟩
  last : EvAt c H q.l ⟨z.at_, k2, z.value, z.time⟩
  op : H q.o = some (.lst (r.open_.map fun t => I (t + 1)))
def RunAt (c : Cs) (H : Hp) (a : Addr) (r : Hs10.Run) : Prop := ∃ (q : RunR) (y z : Hs10.Taken) (k1 k2 : Nat), RunO c H a q ∧ RunIs c H q r y z k1 k2
theorem RunAt.same {c : Cs} {H H' : Hp} {a : Addr} {r : Hs10.Run} (h : RunAt c H a r) (s : Same H H') : RunAt c H' a r :=
  let ⟨q, y, z, k1, k2, e, i⟩ := h
  ⟨q, y, z, k1, k2, e.same s, ⟨i.key.same s, i.hd, i.lt, i.first.same s, i.last.same s, s _ _ i.op⟩⟩
abbrev Runs (c : Cs) (H : Hp) : List Addr → List Hs10.Run → Prop := Paired (RunAt c H)
theorem runs_same {c : Cs} {H H' : Hp} {as : List Addr} {rs : List Hs10.Run} (h : Runs c H as rs) (s : Same H H') : Runs c H' as rs := pair_mono h fun _ _ h => h.same s
theorem SqL.lst {K : PySem.W.Frag} {H : Hp} {a : Addr} {xs : List V} (h : H a = some (.lst xs)) : SqL K H a xs := .inl (.inl h)
end G

/-! ## PRtools -/
namespace G
open PySem PySem.Spec PyProof.Rows L2
theorem take_next {α : Type} {l : List α} {i : Nat} {x : α} (h : l[i]? = some x) : l.take (i + 1) = l.take i ++ [x] := by
  rw [List.take_add_one, h]
  rfl
theorem get_map {α β : Type} {f : α → β} {l : List α} {i : Nat} {y : β} (h : (l.map f)[i]? = some y) : ∃ x, l[i]? = some x ∧ y = f x := by
  rw [List.getElem?_map] at h
  cases e : l[i]? with
  | none =>
    rw [e] at h
    cases h
  | some x =>
    rw [e] at h
    exact ⟨x, rfl, (Option.some.inj h).symm⟩
/-- what a walk asks of its turns, the walk's invariant being Pv (over a list that stands) -/
abbrev LcW (K : PySem.W.Frag) (a : Addr) (g : TG) (tt : TT) (te : TE) (vs : List Nat) (σ : L2.St) (H1 : Hp) (D : Addr) (Qd : Hp → Prop) : Prop :=
  ∃ W : Nat → Nat → Hp → Prop, (∃ m, W 0 m (upd H1 D (.lst []))) ∧ ∀ i m H, W i m H →
    ((Itl K a).stop i H ∧ Qd H) ∨ ((Itl K a).go i H ∧ ∃ Nx : Hp → Prop, (∀ H', Nx H' → ∃ m', m' < m ∧ W (i + 1) m' H') ∧ ∀ x H', (Itl K a).yld i H x H' → g x (wipe σ vs) H' fun σ2 H2 => wipe σ2 vs = wipe σ vs ∧ tt σ2 H2 fun b H3 =>
      if b = true then te σ2 H3 fun y H4 => ∃ acc, H4 D = some (.lst acc) ∧ acc.length < sizeLine ∧ Nx (upd H4 D (.lst (acc ++ [y]))) else Nx H3)
/-- [val y for y in ys if ok y], nothing but garbage being made -/
theorem lc_pure {α : Type} {K : PySem.W.Frag} {a : Addr} {g : TG} {tt : TT} {te : TE} {vs : List Nat} {σ : L2.St} {H1 : Hp} {D : Addr} {Qd : Hp → Prop} (ys : List α) (f : α → V) (ok : α → Bool) (val : α → V) (hD : H1 D = none) (hl : SqL K H1 a (ys.map f)) (hz : ys.length < sizeLine)
    (hs : ∀ y ∈ ys, ∀ H, Same H1 H → ∀ (Y : V → Hp → Prop) (N : Hp → Prop), (∀ H', Same H H' → ok y = true → Y (val y) H') → (∀ H', Same H H' → ok y = false → N H') →
      g (f y) (wipe σ vs) H fun σ2 H2 => wipe σ2 vs = wipe σ vs ∧ tt σ2 H2 fun b H3 => if b = true then te σ2 H3 Y else N H3)
    (hd : ∀ H, Same H1 H → H D = some (.lst ((ys.filter ok).map val)) → Qd H) : LcW K a g tt te vs σ H1 D Qd := by
  refine lc_list (xs := ys.map f) (fun i H => Same H1 H ∧ H D = some (.lst (((ys.take i).filter ok).map val))) ⟨same_new (Same.refl _) hD _, upd_same⟩ (fun i H _ p => p.1.seq hl) ?_ ?_
  · rintro i x H hx ⟨s1, e1⟩
    obtain ⟨y, hy, rfl⟩ := get_map hx
    have hm : y ∈ ys := List.mem_of_getElem? hy
    refine hs y hm H s1 _ _ (fun H' s2 hk => ?_) (fun H' s2 hk => ?_)
    · refine ⟨_, s2 _ _ e1, ?_, same_new (s1.trans s2) hD _, ?_⟩
      · rw [List.length_map]
        exact Nat.lt_of_le_of_lt (Nat.le_trans (List.length_filter_le _ _) (by rw [List.length_take]; exact Nat.min_le_right _ _)) hz
      · rw [upd_same, take_next hy, List.filter_append, List.map_append]
        simp [hk]
    · refine ⟨s1.trans s2, ?_⟩
      rw [s2 _ _ e1, take_next hy, List.filter_append]
      simp [hk]
  · rintro H ⟨s1, e1⟩
    rw [List.length_map, List.take_length] at e1
    exact hd H s1 e1
/-- the pairs of an address and what stands there -/
theorem zip_refs {β : Type} {F : Addr → β → Prop} : ∀ {as : List Addr} {xs : List β}, Paired F as xs → as.map V.ref = (as.zip xs).map fun p => V.ref p.1
  | _, _, .nil => rfl
  | _, _, .cons _ t => congrArg (List.cons _) (zip_refs t)
theorem zip_has {β : Type} {F : Addr → β → Prop} : ∀ {as : List Addr} {xs : List β}, Paired F as xs → ∀ p ∈ as.zip xs, F p.1 p.2
  | _, _, .nil, p, h => absurd h (by simp)
  | _, _, .cons r t, p, h => by
    rcases List.mem_cons.mp (show p ∈ (_, _) :: List.zip _ _ from h) with e | e
    · rw [e]
      exact r
    · exact zip_has t p e
theorem zip_snd {β γ : Type} {F : Addr → β → Prop} (f : β → γ) : ∀ {as : List Addr} {xs : List β}, Paired F as xs → (as.zip xs).map (fun p => f p.2) = xs.map f
  | _, _, .nil => rfl
  | _, _, .cons _ t => congrArg (List.cons _) (zip_snd f t)
theorem zip_len {β : Type} {F : Addr → β → Prop} {as : List Addr} {xs : List β} (h : Paired F as xs) : (as.zip xs).length = xs.length := by
  rw [List.length_zip, pair_len h, Nat.min_self]
theorem filter_true {α : Type} (l : List α) : l.filter (fun _ => true) = l := by simp
theorem zip_filter {β : Type} {F : Addr → β → Prop} (ok : β → Bool) : ∀ {as : List Addr} {xs : List β}, Paired F as xs → Paired F (((as.zip xs).filter fun p => ok p.2).map (·.1)) (xs.filter ok)
  | _, _, .nil => .nil
  | _, _, .cons (a := a) (b := b) r t => by
    show Paired F (((((a, b) :: List.zip _ _).filter fun p => ok p.2)).map (·.1)) ((b :: _).filter ok)
    rw [List.filter_cons, List.filter_cons]
    by_cases h : ok b = true
    · rw [if_pos h, if_pos h]
      exact .cons r (zip_filter ok t)
    · rw [if_neg h, if_neg h]
      exact zip_filter ok t
theorem map_comp {α : Type} (l : List α) (f : α → Addr) : l.map (fun p => V.ref (f p)) = (l.map f).map V.ref := by rw [List.map_map]; rfl
/-- a slice by places that are in range -/
theorem cut_nat (xs : List V) (b e : Nat) : cutV xs (some (b : Int)) (some (e : Int)) = (xs.take e).drop b := by
  unfold cutV
  rw [HT.sIx_nat, HT.sIx_nat, ← List.drop_take]
  have h1 : xs.take (min e xs.length) = xs.take e := by
    by_cases h : e ≤ xs.length
    · rw [Nat.min_eq_left h]
    · rw [Nat.min_eq_right (by omega), List.take_length, List.take_of_length_le (by omega)]
  rw [h1]
  by_cases h : b ≤ xs.length
  · rw [Nat.min_eq_left h]
  · rw [Nat.min_eq_right (by omega), List.drop_of_length_le (by rw [List.length_take]; omega), List.drop_of_length_le (by rw [List.length_take]; omega)]
end G

/-! ## PRd1 -/
/-! The defs about stages. -/
namespace G
open PySem PySem.Spec PyProof.Rows L2
/-! ### numbers -/
theorem dE (a b : Nat) : decide (V.int (a : Int) = V.int (b : Int)) = decide (a = b) := by
  congr 1
  apply propext
  constructor
  · intro h
    injection h with h
    exact Int.ofNat.inj h
  · intro h
    rw [h]
theorem dN (a b : Nat) : (!decide (V.int (a : Int) = V.int (b : Int))) = decide (a ≠ b) := by
  rw [dE]
  simp
theorem dL (a b : Nat) : decide ((a : Int) < (b : Int)) = decide (a < b) := by
  congr 1
  apply propext
  omega
theorem dLe (a b : Nat) : decide ((a : Int) ≤ (b : Int)) = decide (a ≤ b) := by
  congr 1
  apply propext
  omega
theorem ifd {c A B : Prop} [Decidable c] {b : Bool} (e : b = decide c) (h1 : c → A) (h2 : ¬ c → B) : if b = true then A else B := by
  rw [e]
  by_cases h : c
  · rw [if_pos (decide_eq_true h)]
    exact h1 h
  · rw [if_neg (by rw [decide_eq_false h]; decide)]
    exact h2 h
/-- a def of the text -/
structure Df (K : PySem.W.Frag) (mg : Str → Option Value) (x : Str) (s : Stmt) (ps : List Str) (f : Addr) (fd : FuncData) : Prop where
  F : Fun K x x s f fd
  g : mg x = some (.ref f)
  b : Binds K fd ps []
abbrev CI (mg : Str → Option Value) (x : Str) (n : Int) : Prop := ∃ t, mg x = some (.int n t)
section
variable {P : Program} {w : World} {K : PySem.W.Frag} {mg : Str → Option Value} {base : Heap} {c : Cs}
/-! ### is_passed -/
def passB (x : Hs10.Stage) (v f l : Nat) : Bool :=
  if x.test = 1 then decide (v = x.n) else if x.test = 2 then decide (v < x.n) else if x.test = 3 then decide (x.n < v) else if x.test = 4 then decide (l < v) else if x.test = 5 then decide (v < l) else if x.test = 6 then decide (v = f) else true
def spPassed (c : Cs) : Sp := fun vs H Q _ => ∃ (a : Addr) (x : Hs10.Stage) (v f l : Nat), vs = [.ref a, I v, I f, I l] ∧ StageAt c H a x ∧ Q (.bl (passB x v f l)) H
abbrev sPassed : Stmt := top 10
theorem scPassed : FnScope ["stage", "value", "first", "last"] ["stage", "value", "first", "last"] (defScope sPassed) := ⟨rfl, rfl, rfl, by decide +kernel, rfl, by decide +kernel, by decide +kernel⟩
theorem ok_passed {f : Addr} {fd : FuncData} (F : Fun K "is_passed" "is_passed" sPassed f fd) (T : Txt K c) : FnOk P w K mg base CX0 1 f fd ["stage", "value", "first", "last"] (spPassed c) := by
  refine F.ok scPassed ?_ ?_
  · rintro vs H Q E ⟨a, x, v, f, l, rfl, _⟩
    rfl
  · intro cdv A outer s H vs Q E hr h
    refine ⟨_, pss_cons (ps_if (pt_cmpR op_eq (pe_fld (pv 0) rfl) pe_int (nomark _)) (pss_one (ps_ret (pe_cmpR op_eq (pv 1) (pe_fld (pv 0) rfl) (nomark _)))) pss_nil)
      (pss_cons (ps_if (pt_cmpR op_eq (pe_fld (pv 0) rfl) pe_int (nomark _)) (pss_one (ps_ret (pe_cmpR op_lt (pv 1) (pe_fld (pv 0) rfl) (nomark _)))) pss_nil)
      (pss_cons (ps_if (pt_cmpR op_eq (pe_fld (pv 0) rfl) pe_int (nomark _)) (pss_one (ps_ret (pe_cmpR op_gt (pv 1) (pe_fld (pv 0) rfl) (nomark _)))) pss_nil)
      (pss_cons (ps_if (pt_cmpR op_eq (pe_fld (pv 0) rfl) pe_int (nomark _)) (pss_one (ps_ret (pe_cmpR op_gt (pv 1) (pv 3) (nomark _)))) pss_nil)
      (pss_cons (ps_if (pt_cmpR op_eq (pe_fld (pv 0) rfl) pe_int (nomark _)) (pss_one (ps_ret (pe_cmpR op_lt (pv 1) (pv 3) (nomark _)))) pss_nil)
      (pss_cons (ps_if (pt_cmpR op_eq (pe_fld (pv 0) rfl) pe_int (nomark _)) (pss_one (ps_ret (pe_cmpR op_eq (pv 1) (pv 2) (nomark _)))) pss_nil)
      (pss_one (ps_ret pe_bl))))))), ?_⟩
    obtain ⟨a, x, v, f, l, rfl, hx, q⟩ := h
    unfold passB at q
    refine ⟨_, rfl, T.stage_test hx ⟨rfl, _, rfl, ifd (dE _ 1) (fun e => ?_) (fun e => ?_)⟩⟩
    · rw [if_pos e] at q
      refine ⟨_, rfl, _, rfl, T.stage_bound hx ⟨rfl, ?_⟩⟩
      rw [← dE] at q
      exact q
    rw [if_neg e] at q
    refine ⟨_, rfl, T.stage_test hx ⟨rfl, _, rfl, ifd (dE _ 2) (fun e => ?_) (fun e => ?_)⟩⟩
    · rw [if_pos e] at q
      refine ⟨_, rfl, _, rfl, T.stage_bound hx ⟨_, _, rfl, rfl, ?_⟩⟩
      rw [← dL] at q
      exact q
    rw [if_neg e] at q
    refine ⟨_, rfl, T.stage_test hx ⟨rfl, _, rfl, ifd (dE _ 3) (fun e => ?_) (fun e => ?_)⟩⟩
    · rw [if_pos e] at q
      refine ⟨_, rfl, _, rfl, T.stage_bound hx ⟨_, _, rfl, rfl, ?_⟩⟩
      rw [← dL] at q
      exact q
    rw [if_neg e] at q
    refine ⟨_, rfl, T.stage_test hx ⟨rfl, _, rfl, ifd (dE _ 4) (fun e => ?_) (fun e => ?_)⟩⟩
    · rw [if_pos e] at q
      refine ⟨_, rfl, _, rfl, _, _, rfl, rfl, ?_⟩
      rw [← dL] at q
      exact q
    rw [if_neg e] at q
    refine ⟨_, rfl, T.stage_test hx ⟨rfl, _, rfl, ifd (dE _ 5) (fun e => ?_) (fun e => ?_)⟩⟩
    · rw [if_pos e] at q
      refine ⟨_, rfl, _, rfl, _, _, rfl, rfl, ?_⟩
      rw [← dL] at q
      exact q
    rw [if_neg e] at q
    refine ⟨_, rfl, T.stage_test hx ⟨rfl, _, rfl, ifd (dE _ 6) (fun e => ?_) (fun e => ?_)⟩⟩
    · rw [if_pos e] at q
      refine ⟨_, rfl, _, rfl, rfl, ?_⟩
      rw [← dE] at q
      exact q
    rw [if_neg e] at q
    exact q
/-! ### is_of_kind -/
theorem in2 (a b d : Nat) : inV (I a) [I b, I d] = (a == b || a == d) := by
  show ((b : Int) == (a : Int) || ((d : Int) == (a : Int) || false)) = _
  rw [Bool.or_false]
  have h : ∀ x y : Nat, ((x : Int) == (y : Int)) = (y == x) := fun x y => by
    rw [Bool.eq_iff_iff, beq_iff_eq, beq_iff_eq]
    omega
  rw [h, h]
theorem in3 (a b d e : Nat) : inV (I a) [I b, I d, I e] = (a == b || (a == d || a == e)) := by
  show ((b : Int) == (a : Int) || ((d : Int) == (a : Int) || ((e : Int) == (a : Int) || false))) = _
  rw [Bool.or_false]
  have h : ∀ x y : Nat, ((x : Int) == (y : Int)) = (y == x) := fun x y => by
    rw [Bool.eq_iff_iff, beq_iff_eq, beq_iff_eq]
    omega
  rw [h, h, h]
def kindB (x : Hs10.Stage) (k : Nat) : Bool := x.kind == 10 || x.kind == k
def spKind (c : Cs) : Sp := fun vs H Q _ => ∃ (a b : Addr) (x : Hs10.Stage) (e : EvR), vs = [.ref a, .ref b] ∧ StageAt c H a x ∧ EvAt c H b e ∧ ∀ H', Same H H' → Q (.bl (kindB x e.k)) H'
abbrev sKind : Stmt := top 11
theorem scKind : FnScope ["stage", "event"] ["stage", "event"] (defScope sKind) := ⟨rfl, rfl, rfl, by decide +kernel, rfl, by decide +kernel, by decide +kernel⟩
theorem ok_kind {f : Addr} {fd : FuncData} (F : Fun K "is_of_kind" "is_of_kind" sKind f fd) (T : Txt K c) (m1 : CI mg "ANY_KIND" 10) : FnOk P w K mg base CX0 1 f fd ["stage", "event"] (spKind c) := by
  obtain ⟨t1, m1⟩ := m1
  refine F.ok scKind ?_ ?_
  · rintro vs H Q E ⟨a, b, x, e, rfl, _⟩
    rfl
  · intro cdv A outer s H vs Q E hr h
    refine ⟨_, pss_one (ps_ret (pe_cmpR op_in_seq (pe_fld (pv 0) rfl) (pe_tup (pa_cons (pe_glob (v := .int 10) rfl m1 ⟨_, rfl⟩) (pa_cons (pe_fld (pv 1) rfl) pa_nil))) (by rfl))), ?_⟩
    obtain ⟨a, b, x, e, rfl, hx, he, q⟩ := h
    refine ⟨_, rfl, T.stage_kind hx ⟨_, rfl, T.event_kind he ⟨by show 2 ≤ sizeLine; decide, fun p np => ?_⟩⟩⟩
    refine ⟨p, _, rfl, .inr (.inl (.inl upd_same)), rfl, rfl, ?_⟩
    have q' := q _ (same_new (Same.refl H) np (.tup [.int 10, I e.k]))
    unfold kindB at q'
    rw [← in2] at q'
    exact q'
/-! ### fits_first -/
theorem fits_nil (x : Hs10.Stage) (k v t : Nat) : Hs10.fits x [] ⟨k, v, t⟩ = (kindB x k && (decide (3 < x.test) || passB x v 0 0)) := by
  unfold Hs10.fits kindB passB
  congr 1
  match h : x.test with
  | 0 => rfl
  | 1 =>
    show (v == x.n) = (false || decide (v = x.n))
    rw [Bool.false_or, Bool.eq_iff_iff]
    simp
  | 2 => rfl
  | 3 => rfl
  | 4 => rfl
  | 5 => rfl
  | n + 6 => rfl
def spFitsF (c : Cs) : Sp := fun vs H Q _ => ∃ (a b : Addr) (x : Hs10.Stage) (e : EvR), vs = [.ref a, .ref b] ∧ StageAt c H a x ∧ EvAt c H b e ∧ ∀ H', Same H H' → Q (.bl (Hs10.fits x [] ⟨e.k, e.v, e.t⟩)) H'
abbrev sFitsF : Stmt := top 12
theorem scFitsF : FnScope ["stage", "event"] ["stage", "event"] (defScope sFitsF) := ⟨rfl, rfl, rfl, by decide +kernel, rfl, by decide +kernel, by decide +kernel⟩
theorem ok_fitsF {f f1 f2 : Addr} {fd fd1 fd2 : FuncData} (F : Fun K "fits_first" "fits_first" sFitsF f fd) (T : Txt K c) (D1 : Df K mg "is_of_kind" sKind ["stage", "event"] f1 fd1) (D2 : Df K mg "is_passed" sPassed ["stage", "value", "first", "last"] f2 fd2)
    (G1 : FnOk P w K mg base CX0 1 f1 fd1 ["stage", "event"] (spKind c)) (G2 : FnOk P w K mg base CX0 1 f2 fd2 ["stage", "value", "first", "last"] (spPassed c)) : FnOk P w K mg base CX0 2 f fd ["stage", "event"] (spFitsF c) := by
  refine F.ok scFitsF ?_ ?_
  · rintro vs H Q E ⟨a, b, x, e, rfl, _⟩
    rfl
  · intro cdv A outer s H vs Q E hr h
    refine ⟨_, pss_cons (ps_if (pt_cmpR op_gt (pe_fld (pv 0) rfl) pe_int (nomark _)) (pss_one (ps_ret (pe_call G1 hr rfl D1.g D1.F.kp D1.b .nil pass0 (pa_cons (pv 0) (pa_cons (pv 1) pa_nil))))) pss_nil)
      (pss_one (ps_ret (pe_and (pe_call G1 hr rfl D1.g D1.F.kp D1.b .nil pass0 (pa_cons (pv 0) (pa_cons (pv 1) pa_nil))) (pe_one (pe_call G2 hr rfl D2.g D2.F.kp D2.b .nil pass0 (pa_cons (pv 0) (pa_cons (pe_fld (pv 1) rfl) (pa_cons pe_int (pa_cons pe_int pa_nil)))))))))
      , ?_⟩
    obtain ⟨a, b, x, e, rfl, hx, he, q⟩ := h
    rw [fits_nil] at q
    refine ⟨_, rfl, T.stage_test hx ⟨_, _, rfl, rfl, _, rfl, ifd (dL 3 x.test) (fun h3 => ?_) (fun h3 => ?_)⟩⟩
    · rw [decide_eq_true h3, Bool.true_or, Bool.and_true] at q
      exact ⟨_, rfl, _, rfl, a, b, x, e, rfl, hx, he, fun H' s' => q H' s'⟩
    · rw [decide_eq_false h3, Bool.false_or] at q
      refine ⟨_, rfl, _, rfl, a, b, x, e, rfl, hx, he, fun H' s' => ⟨_, rfl, ?_⟩⟩
      cases hk : kindB x e.k with
      | false =>
        rw [hk] at q
        exact iteF (q H' s')
      | true =>
        rw [hk] at q
        exact iteT ⟨_, rfl, _, rfl, T.event_value (he.same s') ⟨a, x, e.v, 0, 0, rfl, hx.same s', q H' s'⟩⟩
/-! ### may_be_left_out -/
def spLeft (c : Cs) : Sp := fun vs H Q _ => ∃ (a : Addr) (xs : List Hs10.Stage) (b e : Nat), vs = [.ref a, I b, I e] ∧ StagesAt c H a xs ∧ xs.length ≤ 8 ∧ ∀ H', Same H H' → Q (.bl (leftB xs b e)) H'
abbrev sLeft : Stmt := top 13
theorem scLeft : FnScope ["stages", "begin", "end", "stage"] ["stages", "begin", "end"] (defScope sLeft) := ⟨rfl, rfl, rfl, by decide +kernel, rfl, by decide +kernel, by decide +kernel⟩
theorem ok_left {f : Addr} {fd : FuncData} (F : Fun K "may_be_left_out" "may_be_left_out" sLeft f fd) (T : Txt K c) (m1 : CI mg "PERHAPS" 1) (m2 : CI mg "ANY" 3) (m3 : CI mg "NONE_BETWEEN" 4) (mA : mg "all" = none) : FnOk P w K mg base CX0 1 f fd ["stages", "begin", "end"] (spLeft c) := by
  obtain ⟨t1, m1⟩ := m1
  obtain ⟨t2, m2⟩ := m2
  obtain ⟨t3, m3⟩ := m3
  refine F.ok scLeft ?_ ?_
  · rintro vs H Q E ⟨a, xs, b, e, rfl, _⟩
    rfl
  · intro cdv A outer s H vs Q E hr h
    refine ⟨_, pss_one (ps_ret (pe_callB (cr_all rfl) (by rfl) mA (by decide +kernel) (pa_cons (pe_lc (own := [("stage", 3)]) (g := gName 3) (tt := tYes) (te := tOp (rIn K false) (tFld K (tVar 3) "form") (tTup (tCons (tC (.int 1)) (tCons (tC (.int 3)) (tCons (tC (.int 4)) tNil))))) rfl scLeft.nd (pi_list (pe_slice sl_list (pv 0) (po_some (pv 1)) (po_some (pv 2)))) (blkOk_by (N := ["stages", "begin", "end", "stage"]) (sc := defScope sLeft) (by decide +kernel)) (fun _ _ _ _ _ => pg_name (i := 3) scLeft.nd rfl (Or.inl rfl)) (fun _ _ _ _ _ => pts_nil) (fun _ _ _ _ _ => pe_cmpR op_in_seq (pe_fld (pv 3) rfl) (pe_tup (pa_cons (pe_glob (v := .int 1) rfl m1 ⟨_, rfl⟩) (pa_cons (pe_glob (v := .int 3) rfl m2 ⟨_, rfl⟩) (pa_cons (pe_glob (v := .int 4) rfl m3 ⟨_, rfl⟩) pa_nil)))) (by rfl))) pa_nil))), ?_⟩
    obtain ⟨a, xs, b, e, rfl, ⟨as, ha, hp⟩, hz, q⟩ := h
    refine ⟨_, rfl, _, rfl, _, rfl, _, rfl, _, rfl, a, _, rfl, SqL.lst ha, fun p np => ?_⟩
    rw [cut_nat, ← List.map_take, ← List.map_drop]
    refine ⟨p, rfl, ⟨_, SqL.lst upd_same⟩, fun D nD => ?_⟩
    have hp' : Paired (fun b x => StageAt c H b x) ((as.take e).drop b) ((xs.take e).drop b) := pair_drop b (pair_take e hp)
    refine lc_pure (((as.take e).drop b).zip ((xs.take e).drop b)) (fun p => V.ref p.1) (fun _ => true) (fun p => V.bl (Hs10.passable p.2)) nD ?_ ?_ (fun y hy H1 s1 Y N hY hN => ⟨rfl, ?_⟩) (fun H1 s1 eD => ?_)
    · rw [← zip_refs hp']
      exact SqL.lst upd_same
    · rw [zip_len hp', List.length_drop, List.length_take]
      have : sizeLine = 16777216 := sizeLine_eq
      omega
    · have s0 : Same H H1 := (same_new (Same.refl H) np _).trans s1
      have hx := (zip_has hp' y hy).same s0
      refine ⟨_, rfl, T.stage_form hx ⟨by show 3 ≤ sizeLine; decide, fun t nt => ?_⟩⟩
      refine ⟨t, _, rfl, .inr (.inl (.inl upd_same)), rfl, rfl, ?_⟩
      have q' := hY _ (same_new (Same.refl H1) nt (.tup [.int 1, .int 3, .int 4])) rfl
      have e3 : Hs10.passable y.2 = inV (I y.2.sort) [I 1, I 3, I 4] := by
        rw [in3]
        rfl
      rw [e3] at q'
      exact q'
    · refine ⟨D, ((xs.take e).drop b).map Hs10.passable, rfl, ?_, ?_⟩
      · rw [filter_true, zip_snd (fun x => V.bl (Hs10.passable x)) hp'] at eD
        rw [List.map_map]
        exact SqL.lst eD
      · have q' := q H1 ((same_new (Same.refl H) np _).trans s1)
        have e4 : leftB xs b e = (((xs.take e).drop b).map Hs10.passable).all id := by
          unfold leftB
          rw [List.all_map]
          rfl
        rw [e4] at q'
        exact q'
end
end G

/-! ## PRd2 -/
/-! firsts, nexts, barred_between, is_end. -/
namespace G
open PySem PySem.Spec PyProof.Rows L2
theorem lenI {n : Nat} : ((n : Int) + 1) = ((n + 1 : Nat) : Int) := by omega
theorem small8 {n : Nat} (h : n ≤ 8) : n < sizeLine := by
  have : sizeLine = 16777216 := sizeLine_eq
  omega
theorem filter_len {n : Nat} (f : Nat → Bool) (h : n ≤ 8) : (((List.range n).filter f).map fun t => I (t + 1)).length < sizeLine := by
  rw [List.length_map]
  exact small8 (Nat.le_trans (List.length_filter_le _ _) (by rw [List.length_range]; exact h))
theorem tyL {K : PySem.W.Frag} {H : Hp} {l : Addr} {xs : List V} (h : H l = some (.lst xs)) : tyV K "list" (.ref l) H := .inl ⟨rfl, _, SqL.lst h⟩
section
variable {P : Program} {w : World} {K : PySem.W.Frag} {mg : Str → Option Value} {base : Heap} {c : Cs}
/-! ### firsts -/
def spFirsts (c : Cs) : Sp := fun vs H Q _ => ∃ (a : Addr) (p : Hs10.Pattern), vs = [.ref a] ∧ StagesAt c H a p.stages ∧ p.stages.length ≤ 8 ∧ ∀ H' q, Same H H' → H q = none → H' q = some (.lst ((Hs10.firstOnes p).map fun t => I (t + 1))) → Q (.ref q) H'
abbrev sFirsts : Stmt := top 14
theorem scFirsts : FnScope ["stages", "found", "at", "stage"] ["stages"] (defScope sFirsts) := ⟨rfl, rfl, rfl, by decide +kernel, rfl, by decide +kernel, by decide +kernel⟩
theorem ok_firsts {f f1 : Addr} {fd fd1 : FuncData} (F : Fun K "firsts" "firsts" sFirsts f fd) (T : Txt K c) (D1 : Df K mg "may_be_left_out" sLeft ["stages", "begin", "end"] f1 fd1) (G1 : FnOk P w K mg base CX0 1 f1 fd1 ["stages", "begin", "end"] (spLeft c))
    (m3 : CI mg "NONE_BETWEEN" 4) (mE : mg "enumerate" = none) : FnOk P w K mg base CX0 2 f fd ["stages"] (spFirsts c) := by
  obtain ⟨t3, m3⟩ := m3
  refine F.ok scFirsts ?_ ?_
  · rintro vs H Q E ⟨a, p, rfl, _⟩
    rfl
  · intro cdv A outer s H vs Q E hr h
    refine ⟨_, (pss_cons (ps_set (i := 1) scFirsts.nd rfl (Or.inl rfl) (pe_lst pa_nil))
      (pss_cons (ps_for PassesOwn.never rfl (pi_enum (by rfl) mE (pa_cons (pv 0) pa_nil)) (pg_tup rfl (pgs_cons (pg_name (i := 2) scFirsts.nd rfl (Or.inl rfl)) (pgs_cons (pg_name (i := 3) scFirsts.nd rfl (Or.inl rfl)) pgs_nil))) (pss_one (ps_if (PW.pt (pw_and (pt_cmpR op_ne (pe_fld (pv 3) rfl) (pe_glob (v := .int 4) rfl m3 ⟨_, rfl⟩) (nomark _)) (pw_and1 (pt_val (pe_call G1 hr rfl D1.g D1.F.kp D1.b .nil pass0 (pa_cons (pv 0) (pa_cons pe_int (pa_cons (pv 2) pa_nil)))))))) (pss_one (ps_expr (pe_bm PySem.F.plainAttrs_list PySem.F.slot_list_append PySem.F.type_list_append mt_append (pv 1) (pa_cons (pe_op op_add (pv 2) pe_int) pa_nil)))) pss_nil)))
      (pss_one (ps_ret (pv 1))))), ?_⟩
    obtain ⟨a, p, rfl, ⟨as, ha, hp⟩, hz, q⟩ := h
    refine ⟨Nat.zero_le _, fun l nl => ⟨_, rfl, a, _, rfl, SqL.lst (same_new (Same.refl H) nl _ _ _ ha), ?_⟩⟩
    refine for_it (walk_enum (xs := as.map V.ref)) (fun i σ H1 => ∃ v2 v3, σ = [some (.ref a), some (.ref l), v2, v3] ∧ Same H H1 ∧ H1 l = some (.lst (((List.range i).filter (canF p)).map fun t => I (t + 1)))) ⟨none, none, rfl, same_new (Same.refl H) nl _, upd_same⟩
      (fun i σ H1 _ ⟨_, _, _, s1, _⟩ => SqL.lst (s1 _ _ ha)) ?_ ?_
    · rintro i x σ H1 H2 hi ⟨v2, v3, rfl, s1, e1⟩ ⟨t, x1, y, rfl, nt, rfl, ex, ey⟩
      cases ex
      obtain ⟨b, hb, rfl⟩ := get_map ey
      obtain ⟨xs, hxs, hx⟩ := pair_get hp hb
      have hst : Hs10.stage p i = xs := stage_at hxs
      have hi8 : i < p.stages.length := (List.getElem?_eq_some_iff.mp hxs).1
      refine ⟨t, _, rfl, .inl (.inl upd_same), rfl, _, _, rfl, _, _, rfl, rfl, ?_⟩
      have s2 : Same H1 (upd H1 t (.tup [.int (i : Nat), .ref b])) := same_new (Same.refl H1) nt _
      have step : ∀ H3, Same H1 H3 → canF p i = false → ∃ v2 v3, [some (V.ref a), some (V.ref l), some (.int (i : Nat)), some (V.ref b)] = [some (V.ref a), some (V.ref l), v2, v3] ∧ Same H H3 ∧ H3 l = some (.lst (((List.range (i + 1)).filter (canF p)).map fun t => I (t + 1))) := fun H3 s3 hk => by
        refine ⟨_, _, rfl, s1.trans s3, ?_⟩
        rw [s3 _ _ e1, List.range_succ, List.filter_append]
        simp [hk]
      refine ⟨_, rfl, T.stage_form ((hx.same s1).same s2) ⟨rfl, _, rfl, ifd (dN xs.sort 4) (fun h4 => ?_) (fun h4 => ?_)⟩⟩
      · refine ⟨_, rfl, _, rfl, a, p.stages, 0, i, rfl, ⟨as, s2 _ _ (s1 _ _ ha), pair_mono hp fun _ _ z => (z.same s1).same s2⟩, hz, fun H3 s3 => ⟨_, rfl, ?_⟩⟩
        have hc : canF p i = leftB p.stages 0 i := by
          unfold canF Hs10.isNot
          rw [hst, show (xs.sort == 4) = false by simpa using h4]
          rfl
        cases hl : leftB p.stages 0 i with
        | false => exact iteF (step H3 (s2.trans s3) (hc.trans hl))
        | true =>
          have e3 := s3 _ _ (s2 _ _ e1)
          refine iteT ⟨_, rfl, tyL e3, _, rfl, _, _, rfl, rfl, l, _, _, rfl, rfl, e3, filter_len _ (by omega), ?_⟩
          refine ⟨_, _, rfl, same_new ((s1.trans s2).trans s3) nl _, ?_⟩
          rw [upd_same, List.range_succ, List.filter_append, List.map_append]
          simp [hc.trans hl]
      · have h4 : xs.sort = 4 := by omega
        refine step _ s2 ?_
        unfold canF Hs10.isNot
        rw [hst, h4]
        rfl
    · rintro σ H1 ⟨v2, v3, rfl, s1, e1⟩
      refine ⟨_, rfl, q H1 l s1 nl ?_⟩
      rw [List.length_map, pair_len hp] at e1
      rw [firsts_is]
      exact e1
/-! ### nexts -/
def coll (p : Hs10.Pattern) (t i : Nat) : List Nat := (if Hs10.isMany (Hs10.stage p t) = true then [t] else []) ++ ((List.range i).map fun j => t + 1 + j).filter (canN p t)
theorem coll_zero (p : Hs10.Pattern) (t : Nat) : coll p t 0 = if Hs10.isMany (Hs10.stage p t) = true then [t] else [] := by
  unfold coll
  rw [List.range_zero, List.map_nil, List.filter_nil, List.append_nil]
theorem coll_succ (p : Hs10.Pattern) (t i : Nat) : coll p t (i + 1) = coll p t i ++ if canN p t (t + 1 + i) = true then [t + 1 + i] else [] := by
  unfold coll
  rw [List.range_succ, List.map_append, List.filter_append, List.append_assoc]
  congr 2
  show List.filter (canN p t) [t + 1 + i] = _
  rw [List.filter_cons]
  rfl
theorem coll_len (p : Hs10.Pattern) (t i : Nat) : (coll p t i).length ≤ 1 + i := by
  unfold coll
  rw [List.length_append]
  have h1 : ((if Hs10.isMany (Hs10.stage p t) = true then [t] else []) : List Nat).length ≤ 1 := by split <;> simp
  have h2 := List.length_filter_le (canN p t) ((List.range i).map fun j => t + 1 + j)
  rw [List.length_map, List.length_range] at h2
  omega
def spNexts (c : Cs) : Sp := fun vs H Q _ => ∃ (a : Addr) (p : Hs10.Pattern) (t : Nat), vs = [.ref a, I (t + 1)] ∧ StagesAt c H a p.stages ∧ p.stages.length ≤ 8 ∧ t < p.stages.length ∧ ∀ H' q, Same H H' → H q = none → H' q = some (.lst ((Hs10.nextOnes p t).map fun t => I (t + 1))) → Q (.ref q) H'
abbrev sNexts : Stmt := top 15
theorem scNexts : FnScope ["stages", "number", "found", "at"] ["stages", "number"] (defScope sNexts) := ⟨rfl, rfl, rfl, by decide +kernel, rfl, by decide +kernel, by decide +kernel⟩
theorem ok_nexts {f f1 : Addr} {fd fd1 : FuncData} (F : Fun K "nexts" "nexts" sNexts f fd) (T : Txt K c) (D1 : Df K mg "may_be_left_out" sLeft ["stages", "begin", "end"] f1 fd1) (G1 : FnOk P w K mg base CX0 1 f1 fd1 ["stages", "begin", "end"] (spLeft c))
    (m1 : CI mg "SOME" 2) (m2 : CI mg "ANY" 3) (m3 : CI mg "NONE_BETWEEN" 4) (mR : mg "range" = none) (mLen : mg "len" = none) : FnOk P w K mg base CX0 2 f fd ["stages", "number"] (spNexts c) := by
  obtain ⟨t1, m1⟩ := m1
  obtain ⟨t2, m2⟩ := m2
  obtain ⟨t3, m3⟩ := m3
  refine F.ok scNexts ?_ ?_
  · rintro vs H Q E ⟨a, p, t, rfl, _⟩
    rfl
  · intro cdv A outer s H vs Q E hr h
    refine ⟨_, (pss_cons (ps_set (i := 2) scNexts.nd rfl (Or.inl rfl) (pe_lst pa_nil))
      (pss_cons (ps_if (pt_cmpR op_in_seq (pe_fld (pe_ix ix_list (pv 0) (pe_op op_sub (pv 1) pe_int) (fun _ _ => rfl)) rfl) (pe_tup (pa_cons (pe_glob (v := .int 2) rfl m1 ⟨_, rfl⟩) (pa_cons (pe_glob (v := .int 3) rfl m2 ⟨_, rfl⟩) pa_nil))) (by rfl)) (pss_one (ps_expr (pe_bm PySem.F.plainAttrs_list PySem.F.slot_list_append PySem.F.type_list_append mt_append (pv 2) (pa_cons (pv 1) pa_nil)))) pss_nil)
      (pss_cons (ps_for PassesOwn.never rfl (pi_range2 (by rfl) mR (pa_cons (pv 1) (pa_cons (pe_callB call_len_seq (by rfl) mLen PySem.boot_len (pa_cons (pv 0) pa_nil)) pa_nil))) (pg_name (i := 3) scNexts.nd rfl (Or.inl rfl)) (pss_one (ps_if (PW.pt (pw_and (pt_cmpR op_ne (pe_fld (pe_ix ix_list (pv 0) (pv 3) (fun _ _ => rfl)) rfl) (pe_glob (v := .int 4) rfl m3 ⟨_, rfl⟩) (nomark _)) (pw_and1 (pt_val (pe_call G1 hr rfl D1.g D1.F.kp D1.b .nil pass0 (pa_cons (pv 0) (pa_cons (pv 1) (pa_cons (pv 3) pa_nil)))))))) (pss_one (ps_expr (pe_bm PySem.F.plainAttrs_list PySem.F.slot_list_append PySem.F.type_list_append mt_append (pv 2) (pa_cons (pe_op op_add (pv 3) pe_int) pa_nil)))) pss_nil)))
      (pss_one (ps_ret (pv 2)))))), ?_⟩
    obtain ⟨a, p, t, rfl, ⟨as, ha, hp⟩, hz, ht, q⟩ := h
    refine ⟨Nat.zero_le _, fun l nl => ?_⟩
    have s0 : Same H (upd H l (.lst [])) := same_new (Same.refl H) nl _
    obtain ⟨b0, hb0, hx0⟩ := pair_get' hp (stage_get ht)
    have hb0' : (as.map V.ref)[t]? = some (V.ref b0) := by
      rw [List.getElem?_map, hb0]
      rfl
    -- the loop, from what the first test has left
    have loop : ∀ (H1 : Hp) (D : Ends), Same H H1 → H1 l = some (.lst ((if Hs10.isMany (Hs10.stage p t) = true then [t] else []).map fun t => I (t + 1))) → D.rt = Q →
        (tSeq (tFor (iRng2 (tCons (tVar 1) (tCons (tCB (fun xs H Q => ∃ a ys, xs = [V.ref a] ∧ (SqL K H a ys ∨ SqT K H a ys) ∧ Q (.int ys.length) H) (tCons (tVar 0) tNil)) tNil))) (gName 3)
          (tIfS (tAnd (tTest (tOp rNe (tFld K (tOp (rIxL K) (tVar 0) (tVar 3)) "form") (tC (.int 4)))) (tB (tCall (spLeft c) [] E0 (tCons (tVar 0) (tCons (tVar 1) (tCons (tVar 3) tNil))))))
            (tDrop (tBM K "list" rAppend (tVar 2) (tCons (tOp (rI0 fun i j => .int (i + j)) (tVar 3) (tC (.int 1))) tNil))) tNext)) (tRet (tVar 2))) D [some (.ref a), some (I (t + 1)), some (.ref l), none] H1 := by
      intro H1 D s1 e1 hD
      refine ⟨_, rfl, _, rfl, a, _, rfl, .inl (SqL.lst (s1 _ _ ha)), ((t + 1 : Nat) : Int), (((as.map V.ref).length : Nat) : Int), rfl, ?_, ?_⟩
      · rw [List.length_map, pair_len hp]
        omega
      have hn : ((((as.map V.ref).length : Nat) : Int) - ((t + 1 : Nat) : Int)).toNat = p.stages.length - (t + 1) := by
        rw [List.length_map, pair_len hp]
        omega
      rw [hn]
      refine for_range (lo := ((t + 1 : Nat) : Int)) (n := p.stages.length - (t + 1)) (fun i σ H2 => ∃ v3, σ = [some (.ref a), some (I (t + 1)), some (.ref l), v3] ∧ Same H H2 ∧
        H2 l = some (.lst ((coll p t i).map fun t => I (t + 1)))) ⟨none, rfl, s1, by rw [coll_zero]; exact e1⟩ ?_ ?_
      · rintro i σ H2 hi ⟨v3, rfl, s2, e2⟩
        have ei : ((t + 1 : Nat) : Int) + (i : Int) = ((t + 1 + i : Nat) : Int) := by omega
        rw [ei]
        obtain ⟨b, hb, hx⟩ := pair_get' hp (stage_get (p := p) (i := t + 1 + i) (by omega))
        have hb' : (as.map V.ref)[t + 1 + i]? = some (V.ref b) := by
          rw [List.getElem?_map, hb]
          rfl
        have step : ∀ H3, Same H2 H3 → canN p t (t + 1 + i) = false → ∃ v3, [some (V.ref a), some (I (t + 1)), some (V.ref l), some (I (t + 1 + i))] = [some (V.ref a), some (I (t + 1)), some (V.ref l), v3] ∧ Same H H3 ∧
            H3 l = some (.lst ((coll p t (i + 1)).map fun t => I (t + 1))) := fun H3 s3 hk => by
          refine ⟨_, rfl, s2.trans s3, ?_⟩
          rw [s3 _ _ e2, coll_succ, if_neg (by rw [hk]; decide), List.append_nil]
        refine ⟨_, rfl, _, rfl, a, _, _, _, rfl, rfl, SqL.lst (s2 _ _ ha), atI_nat hb', T.stage_form (hx.same s2) ⟨rfl, _, rfl, ifd (dN _ 4) (fun h4 => ?_) (fun h4 => ?_)⟩⟩
        · refine ⟨_, rfl, _, rfl, _, rfl, a, p.stages, t + 1, t + 1 + i, rfl, ⟨as, s2 _ _ ha, pair_mono hp fun _ _ z => z.same s2⟩, hz, fun H3 s3 => ⟨_, rfl, ?_⟩⟩
          have hc : canN p t (t + 1 + i) = leftB p.stages (t + 1) (t + 1 + i) := by
            unfold canN Hs10.isNot
            rw [show ((Hs10.stage p (t + 1 + i)).sort == 4) = false by simpa using h4]
            rfl
          cases hl : leftB p.stages (t + 1) (t + 1 + i) with
          | false => exact iteF (step H3 s3 (hc.trans hl))
          | true =>
            have e3 := s3 _ _ e2
            refine iteT ⟨_, rfl, tyL e3, _, rfl, _, _, rfl, rfl, l, _, _, rfl, rfl, e3, ?_, ?_⟩
            · rw [List.length_map]
              have h2 := coll_len p t i
              have : sizeLine = 16777216 := sizeLine_eq
              omega
            · refine ⟨_, rfl, same_new (s2.trans s3) nl _, ?_⟩
              rw [upd_same, coll_succ, if_pos (hc.trans hl), List.map_append]
              rfl
        · refine step _ (Same.refl _) ?_
          unfold canN Hs10.isNot
          rw [show (Hs10.stage p (t + 1 + i)).sort = 4 by omega]
          rfl
      · rintro σ H2 ⟨v3, rfl, s2, e2⟩
        refine ⟨_, rfl, ?_⟩
        show D.rt _ _
        rw [hD]
        refine q H2 l s2 nl ?_
        rw [nexts_is p t ht]
        exact e2
    have et : ((t + 1 : Nat) : Int) - 1 = ((t : Nat) : Int) := by omega
    refine ⟨_, rfl, _, rfl, _, _, rfl, rfl, a, _, _, _, rfl, rfl, SqL.lst (s0 _ _ ha), ?_, T.stage_form (hx0.same s0) ⟨by show 2 ≤ sizeLine; decide, fun tp ntp => ⟨tp, _, rfl, .inr (.inl (.inl upd_same)), rfl, rfl, _, rfl, ?_⟩⟩⟩
    · show atI (as.map V.ref) (((t + 1 : Nat) : Int) - 1) = _
      rw [et]
      exact atI_nat hb0'
    have s1 : Same (upd H l (.lst [])) (upd (upd H l (.lst [])) tp (.tup [.int 2, .int 3])) := same_new (Same.refl _) ntp _
    have e1 : (upd (upd H l (.lst [])) tp (.tup [.int 2, .int 3])) l = some (.lst []) := s1 _ _ upd_same
    have em : Hs10.isMany (Hs10.stage p t) = inV (I (Hs10.stage p t).sort) [I 2, I 3] := by
      rw [in2]
      rfl
    show if (inV (I (Hs10.stage p t).sort) [I 2, I 3]) = true then _ else _
    rw [← em]
    cases hm : Hs10.isMany (Hs10.stage p t) with
    | true =>
      refine iteT ⟨_, rfl, tyL e1, _, rfl, l, _, _, rfl, rfl, e1, by show 0 < sizeLine; decide, ?_⟩
      refine loop _ _ (same_new (s0.trans s1) nl _) ?_ rfl
      rw [upd_same, hm]
      rfl
    | false =>
      refine iteF ?_
      refine loop _ _ (s0.trans s1) ?_ rfl
      rw [e1, hm]
      rfl
end
end G

/-! ## PRd3 -/
/-! barred_between, is_end; the __init__s of Stage, Event, Run, Skip; Run.begin, Run.stage. -/
namespace G
open PySem PySem.Spec PyProof.Rows L2
theorem putF_app {f : Str} {v : V} : ∀ {fs : List (Str × V)}, fs.lookup f = none → putF f v fs = fs ++ [(f, v)]
  | [], _ => rfl
  | (g, x) :: r, h => by
    have hg : (f == g) = false := by
      cases e : (f == g) with
      | false => rfl
      | true =>
        simp only [List.lookup, e] at h
        cases h
    have hr : r.lookup f = none := by
      simp only [List.lookup, hg] at h
      exact h
    have hne : ¬ g = f := fun z => by
      rw [z, beq_self_eq_true] at hg
      cases hg
    rw [pf_go hne, putF_app hr]
    rfl
section
variable {P : Program} {w : World} {K : PySem.W.Frag} {mg : Str → Option Value} {base : Heap} {c : Cs}
/-! ### barred_between -/
def spBarred (c : Cs) : Sp := fun vs H Q _ => ∃ (a : Addr) (xs : List Hs10.Stage) (b t : Nat), vs = [.ref a, I b, I (t + 1)] ∧ StagesAt c H a xs ∧ xs.length ≤ 8 ∧
  ∀ H' q as, Same H H' → H q = none → H' q = some (.lst (as.map V.ref)) → Paired (fun b x => StageAt c H' b x) as (((xs.take t).drop b).filter Hs10.isNot) → Q (.ref q) H'
abbrev sBarred : Stmt := top 16
theorem scBarred : FnScope ["stages", "number", "other", "stage"] ["stages", "number", "other"] (defScope sBarred) := ⟨rfl, rfl, rfl, by decide +kernel, rfl, by decide +kernel, by decide +kernel⟩
theorem ok_barred {f : Addr} {fd : FuncData} (F : Fun K "barred_between" "barred_between" sBarred f fd) (T : Txt K c) (m3 : CI mg "NONE_BETWEEN" 4) : FnOk P w K mg base CX0 1 f fd ["stages", "number", "other"] (spBarred c) := by
  obtain ⟨t3, m3⟩ := m3
  refine F.ok scBarred ?_ ?_
  · rintro vs H Q E ⟨a, xs, b, t, rfl, _⟩
    rfl
  · intro cdv A outer s H vs Q E hr h
    refine ⟨_, pss_one (ps_ret (pe_lc (own := [("stage", 3)]) (g := gName 3) (tt := tTest (tOp rEq (tFld K (tVar 3) "form") (tC (.int 4)))) (te := tVar 3) rfl scBarred.nd (pi_list (pe_slice sl_list (pv 0) (po_some (pv 1)) (po_some (pe_op op_sub (pv 2) pe_int))))
      (blkOk_by (N := ["stages", "number", "other", "stage"]) (sc := defScope sBarred) (by decide +kernel)) (fun _ _ _ _ _ => pg_name (i := 3) scBarred.nd rfl (Or.inl rfl))
      (fun _ _ _ _ _ => pts_one (pt_cmpR op_eq (pe_fld (pv 3) rfl) (pe_glob (v := .int 4) rfl m3 ⟨_, rfl⟩) (nomark _))) (fun _ _ _ _ _ => pv 3))), ?_⟩
    obtain ⟨a, xs, b, t, rfl, ⟨as, ha, hp⟩, hz, q⟩ := h
    refine ⟨_, rfl, _, rfl, _, rfl, _, rfl, _, _, rfl, rfl, _, rfl, a, _, rfl, SqL.lst ha, fun p np => ?_⟩
    have et : ((t + 1 : Nat) : Int) - 1 = ((t : Nat) : Int) := by omega
    rw [et, cut_nat, ← List.map_take, ← List.map_drop]
    refine ⟨p, rfl, ⟨_, SqL.lst upd_same⟩, fun D nD => ?_⟩
    have hp' : Paired (fun b x => StageAt c H b x) ((as.take t).drop b) ((xs.take t).drop b) := pair_drop b (pair_take t hp)
    refine lc_pure (((as.take t).drop b).zip ((xs.take t).drop b)) (fun p => V.ref p.1) (fun p => Hs10.isNot p.2) (fun p => V.ref p.1) nD ?_ ?_ (fun y hy H1 s1 Y N hY hN => ⟨rfl, ?_⟩) (fun H1 s1 eD => ?_)
    · rw [← zip_refs hp']
      exact SqL.lst upd_same
    · rw [zip_len hp', List.length_drop, List.length_take]
      have : sizeLine = 16777216 := sizeLine_eq
      omega
    · have s0 : Same H H1 := (same_new (Same.refl H) np _).trans s1
      have hx := (zip_has hp' y hy).same s0
      refine ⟨_, rfl, T.stage_form hx ⟨rfl, _, rfl, ifd (dE y.2.sort 4) (fun e => ?_) (fun e => ?_)⟩⟩
      · refine ⟨_, rfl, hY H1 (Same.refl _) ?_⟩
        unfold Hs10.isNot
        rw [e]
        rfl
      · refine hN H1 (Same.refl _) ?_
        unfold Hs10.isNot
        simpa using e
    · have s0 : Same H H1 := (same_new (Same.refl H) np _).trans s1
      refine q H1 D (((((as.take t).drop b).zip ((xs.take t).drop b)).filter fun p => Hs10.isNot p.2).map (·.1)) s0 ((same_new (Same.refl H) np _).free nD) ?_ (pair_mono (zip_filter Hs10.isNot hp') fun _ _ z => z.same s0)
      rw [List.map_map]
      exact eD
/-! ### is_end -/
def spEnd (c : Cs) : Sp := fun vs H Q _ => ∃ (a : Addr) (p : Hs10.Pattern) (t : Nat), vs = [.ref a, I (t + 1)] ∧ StagesAt c H a p.stages ∧ p.stages.length ≤ 8 ∧ ∀ H', Same H H' → Q (.bl (Hs10.canEnd p t)) H'
abbrev sEnd : Stmt := top 17
theorem scEnd : FnScope ["stages", "number"] ["stages", "number"] (defScope sEnd) := ⟨rfl, rfl, rfl, by decide +kernel, rfl, by decide +kernel, by decide +kernel⟩
theorem ok_end {f f1 : Addr} {fd fd1 : FuncData} (F : Fun K "is_end" "is_end" sEnd f fd) (D1 : Df K mg "may_be_left_out" sLeft ["stages", "begin", "end"] f1 fd1) (G1 : FnOk P w K mg base CX0 1 f1 fd1 ["stages", "begin", "end"] (spLeft c)) (mLen : mg "len" = none) :
    FnOk P w K mg base CX0 2 f fd ["stages", "number"] (spEnd c) := by
  refine F.ok scEnd ?_ ?_
  · rintro vs H Q E ⟨a, p, t, rfl, _⟩
    rfl
  · intro cdv A outer s H vs Q E hr h
    refine ⟨_, pss_one (ps_ret (pe_call G1 hr rfl D1.g D1.F.kp D1.b .nil pass0 (pa_cons (pv 0) (pa_cons (pv 1) (pa_cons (pe_callB call_len_seq (by rfl) mLen PySem.boot_len (pa_cons (pv 0) pa_nil)) pa_nil))))), ?_⟩
    obtain ⟨a, p, t, rfl, ⟨as, ha, hp⟩, hz, q⟩ := h
    refine ⟨_, rfl, _, rfl, _, rfl, a, _, rfl, .inl (SqL.lst ha), a, p.stages, t + 1, p.stages.length, ?_, ⟨as, ha, hp⟩, hz, fun H' s' => ?_⟩
    · rw [List.length_map, pair_len hp]
      rfl
    · have q' := q H' s'
      rw [end_is] at q'
      exact q' 
/-! ### Stage.__init__ -/
def stN (x : Hs10.Stage) : List V := [I x.sort, I x.follow, I x.inner, I x.kind, I x.test, I x.n]
def spStageI (c : Cs) : Sp := fun vs H Q _ => ∃ (p dx a : Addr) (x : Hs10.Stage), vs = [.ref p, .ref a] ∧ H p = some (.ins c.cS dx []) ∧ H a = some (.lst (stN x)) ∧ Q .non (upd H p (.ins c.cS dx (fsStage x)))
abbrev sStageI : Stmt := inClass (top 8) 0
theorem scStageI : FnScope ["self", "numbers"] ["self", "numbers"] (defScope sStageI) := ⟨rfl, rfl, rfl, by decide +kernel, rfl, by decide +kernel, by decide +kernel⟩
theorem ok_stageI {f : Addr} {fd : FuncData} (F : Fun K "__init__" "Stage.__init__" sStageI f fd) (T : Txt K c) : FnOk P w K mg base CX0 1 f fd ["self", "numbers"] (spStageI c) := by
  refine F.ok scStageI ?_ ?_
  · rintro vs H Q E ⟨p, dx, a, x, rfl, _⟩
    rfl
  · intro cdv A outer s H vs Q E hr h
    refine ⟨_, (pss_cons (ps_fld (pv 0) (pe_ix ix_list (pv 1) pe_int (fun _ _ => rfl)) rfl)
      (pss_cons (ps_fld (pv 0) (pe_ix ix_list (pv 1) pe_int (fun _ _ => rfl)) rfl)
      (pss_cons (ps_fld (pv 0) (pe_ix ix_list (pv 1) pe_int (fun _ _ => rfl)) rfl)
      (pss_cons (ps_fld (pv 0) (pe_ix ix_list (pv 1) pe_int (fun _ _ => rfl)) rfl)
      (pss_cons (ps_fld (pv 0) (pe_ix ix_list (pv 1) pe_int (fun _ _ => rfl)) rfl)
      (pss_one (ps_fld (pv 0) (pe_ix ix_list (pv 1) pe_int (fun _ _ => rfl)) rfl))))))), ?_⟩
    obtain ⟨p, dx, a, x, rfl, hp, ha, q⟩ := h
    have ne : a ≠ p := ne_of ha hp (fun z => by cases z)
    refine ⟨_, rfl, a, stN x, ((0 : Nat) : Int), _, rfl, rfl, SqL.lst ha, atI_nat (by rfl), _, rfl, p, c.cS, dx, _, rfl, hp, T.clStage, T.nStage_form, (by show 0 < 1000; decide), ?_⟩
    rw [show putF "form" (I x.sort) ([] : List (Str × V)) = ([("form", I x.sort)] : List (Str × V)) from putF_app rfl]
    refine ⟨_, rfl, a, stN x, ((1 : Nat) : Int), _, rfl, rfl, SqL.lst (by rw [upd_ne ne]; exact ha), atI_nat (by rfl), _, rfl, p, c.cS, dx, _, rfl, upd_same, T.clStage, T.nStage_follows, (by show 1 < 1000; decide), ?_⟩
    rw [show putF "follows" (I x.follow) ([("form", I x.sort)] : List (Str × V)) = ([("form", I x.sort), ("follows", I x.follow)] : List (Str × V)) from putF_app ((lk_go (by decide +kernel)).trans rfl), upd_upd]
    refine ⟨_, rfl, a, stN x, ((2 : Nat) : Int), _, rfl, rfl, SqL.lst (by rw [upd_ne ne]; exact ha), atI_nat (by rfl), _, rfl, p, c.cS, dx, _, rfl, upd_same, T.clStage, T.nStage_repeats, (by show 2 < 1000; decide), ?_⟩
    rw [show putF "repeats" (I x.inner) ([("form", I x.sort), ("follows", I x.follow)] : List (Str × V)) = ([("form", I x.sort), ("follows", I x.follow), ("repeats", I x.inner)] : List (Str × V)) from putF_app ((lk_go (by decide +kernel)).trans ((lk_go (by decide +kernel)).trans rfl)), upd_upd]
    refine ⟨_, rfl, a, stN x, ((3 : Nat) : Int), _, rfl, rfl, SqL.lst (by rw [upd_ne ne]; exact ha), atI_nat (by rfl), _, rfl, p, c.cS, dx, _, rfl, upd_same, T.clStage, T.nStage_kind, (by show 3 < 1000; decide), ?_⟩
    rw [show putF "kind" (I x.kind) ([("form", I x.sort), ("follows", I x.follow), ("repeats", I x.inner)] : List (Str × V)) = ([("form", I x.sort), ("follows", I x.follow), ("repeats", I x.inner), ("kind", I x.kind)] : List (Str × V)) from putF_app ((lk_go (by decide +kernel)).trans ((lk_go (by decide +kernel)).trans ((lk_go (by decide +kernel)).trans rfl))), upd_upd]
    refine ⟨_, rfl, a, stN x, ((4 : Nat) : Int), _, rfl, rfl, SqL.lst (by rw [upd_ne ne]; exact ha), atI_nat (by rfl), _, rfl, p, c.cS, dx, _, rfl, upd_same, T.clStage, T.nStage_test, (by show 4 < 1000; decide), ?_⟩
    rw [show putF "test" (I x.test) ([("form", I x.sort), ("follows", I x.follow), ("repeats", I x.inner), ("kind", I x.kind)] : List (Str × V)) = ([("form", I x.sort), ("follows", I x.follow), ("repeats", I x.inner), ("kind", I x.kind), ("test", I x.test)] : List (Str × V)) from putF_app ((lk_go (by decide +kernel)).trans ((lk_go (by decide +kernel)).trans ((lk_go (by decide +kernel)).trans ((lk_go (by decide +kernel)).trans rfl)))), upd_upd]
    refine ⟨_, rfl, a, stN x, ((5 : Nat) : Int), _, rfl, rfl, SqL.lst (by rw [upd_ne ne]; exact ha), atI_nat (by rfl), _, rfl, p, c.cS, dx, _, rfl, upd_same, T.clStage, T.nStage_bound, (by show 5 < 1000; decide), ?_⟩
    rw [show putF "bound" (I x.n) ([("form", I x.sort), ("follows", I x.follow), ("repeats", I x.inner), ("kind", I x.kind), ("test", I x.test)] : List (Str × V)) = ([("form", I x.sort), ("follows", I x.follow), ("repeats", I x.inner), ("kind", I x.kind), ("test", I x.test), ("bound", I x.n)] : List (Str × V)) from putF_app ((lk_go (by decide +kernel)).trans ((lk_go (by decide +kernel)).trans ((lk_go (by decide +kernel)).trans ((lk_go (by decide +kernel)).trans ((lk_go (by decide +kernel)).trans rfl))))), upd_upd]
    exact q
/-! ### Event.__init__ -/
def spEventI (c : Cs) : Sp := fun vs H Q _ => ∃ (p dx : Addr) (e : EvR), vs = [.ref p, I e.i, I e.k, I e.v, I e.t] ∧ H p = some (.ins c.cE dx []) ∧ Q .non (upd H p (.ins c.cE dx (fsEvent e)))
abbrev sEventI : Stmt := inClass (top 9) 0
theorem scEventI : FnScope ["self", "number", "kind", "value", "time"] ["self", "number", "kind", "value", "time"] (defScope sEventI) := ⟨rfl, rfl, rfl, by decide +kernel, rfl, by decide +kernel, by decide +kernel⟩
theorem ok_eventI {f : Addr} {fd : FuncData} (F : Fun K "__init__" "Event.__init__" sEventI f fd) (T : Txt K c) : FnOk P w K mg base CX0 1 f fd ["self", "number", "kind", "value", "time"] (spEventI c) := by
  refine F.ok scEventI ?_ ?_
  · rintro vs H Q E ⟨p, dx, e, rfl, _⟩
    rfl
  · intro cdv A outer s H vs Q E hr h
    refine ⟨_, (pss_cons (ps_fld (pv 0) (pv 1) rfl)
      (pss_cons (ps_fld (pv 0) (pv 2) rfl)
      (pss_cons (ps_fld (pv 0) (pv 3) rfl)
      (pss_one (ps_fld (pv 0) (pv 4) rfl))))), ?_⟩
    obtain ⟨p, dx, e, rfl, hp, k⟩ := h
    refine ⟨_, rfl, _, rfl, p, c.cE, dx, _, rfl, hp, T.clEvent, T.nEvent_number, (by show 0 < 1000; decide), ?_⟩
    rw [show putF "number" (I e.i) ([] : List (Str × V)) = ([("number", I e.i)] : List (Str × V)) from putF_app rfl]
    refine ⟨_, rfl, _, rfl, p, c.cE, dx, _, rfl, upd_same, T.clEvent, T.nEvent_kind, (by show 1 < 1000; decide), ?_⟩
    rw [show putF "kind" (I e.k) ([("number", I e.i)] : List (Str × V)) = ([("number", I e.i), ("kind", I e.k)] : List (Str × V)) from putF_app ((lk_go (by decide +kernel)).trans rfl), upd_upd]
    refine ⟨_, rfl, _, rfl, p, c.cE, dx, _, rfl, upd_same, T.clEvent, T.nEvent_value, (by show 2 < 1000; decide), ?_⟩
    rw [show putF "value" (I e.v) ([("number", I e.i), ("kind", I e.k)] : List (Str × V)) = ([("number", I e.i), ("kind", I e.k), ("value", I e.v)] : List (Str × V)) from putF_app ((lk_go (by decide +kernel)).trans ((lk_go (by decide +kernel)).trans rfl)), upd_upd]
    refine ⟨_, rfl, _, rfl, p, c.cE, dx, _, rfl, upd_same, T.clEvent, T.nEvent_time, (by show 3 < 1000; decide), ?_⟩
    rw [show putF "time" (I e.t) ([("number", I e.i), ("kind", I e.k), ("value", I e.v)] : List (Str × V)) = ([("number", I e.i), ("kind", I e.k), ("value", I e.v), ("time", I e.t)] : List (Str × V)) from putF_app ((lk_go (by decide +kernel)).trans ((lk_go (by decide +kernel)).trans ((lk_go (by decide +kernel)).trans rfl))), upd_upd]
    exact k
/-! ### Run.__init__ -/
def spRunI (c : Cs) : Sp := fun vs H Q _ => ∃ (p dx : Addr) (r : RunR), vs = [.ref p, V.ref r.t, V.ref r.f, V.ref r.l, V.ref r.o] ∧ H p = some (.ins c.cR dx []) ∧ Q .non (upd H p (.ins c.cR dx (fsRun r)))
abbrev sRunI : Stmt := inClass (top 19) 0
theorem scRunI : FnScope ["self", "taken", "first", "last", "open_ones"] ["self", "taken", "first", "last", "open_ones"] (defScope sRunI) := ⟨rfl, rfl, rfl, by decide +kernel, rfl, by decide +kernel, by decide +kernel⟩
theorem ok_runI {f : Addr} {fd : FuncData} (F : Fun K "__init__" "Run.__init__" sRunI f fd) (T : Txt K c) : FnOk P w K mg base CX0 1 f fd ["self", "taken", "first", "last", "open_ones"] (spRunI c) := by
  refine F.ok scRunI ?_ ?_
  · rintro vs H Q E ⟨p, dx, r, rfl, _⟩
    rfl
  · intro cdv A outer s H vs Q E hr h
    refine ⟨_, (pss_cons (ps_fld (pv 0) (pv 1) rfl)
      (pss_cons (ps_fld (pv 0) (pv 2) rfl)
      (pss_cons (ps_fld (pv 0) (pv 3) rfl)
      (pss_one (ps_fld (pv 0) (pv 4) rfl))))), ?_⟩
    obtain ⟨p, dx, r, rfl, hp, k⟩ := h
    refine ⟨_, rfl, _, rfl, p, c.cR, dx, _, rfl, hp, T.clRun, T.nRun_taken, (by show 0 < 1000; decide), ?_⟩
    rw [show putF "taken" (V.ref r.t) ([] : List (Str × V)) = ([("taken", V.ref r.t)] : List (Str × V)) from putF_app rfl]
    refine ⟨_, rfl, _, rfl, p, c.cR, dx, _, rfl, upd_same, T.clRun, T.nRun_first, (by show 1 < 1000; decide), ?_⟩
    rw [show putF "first" (V.ref r.f) ([("taken", V.ref r.t)] : List (Str × V)) = ([("taken", V.ref r.t), ("first", V.ref r.f)] : List (Str × V)) from putF_app ((lk_go (by decide +kernel)).trans rfl), upd_upd]
    refine ⟨_, rfl, _, rfl, p, c.cR, dx, _, rfl, upd_same, T.clRun, T.nRun_last, (by show 2 < 1000; decide), ?_⟩
    rw [show putF "last" (V.ref r.l) ([("taken", V.ref r.t), ("first", V.ref r.f)] : List (Str × V)) = ([("taken", V.ref r.t), ("first", V.ref r.f), ("last", V.ref r.l)] : List (Str × V)) from putF_app ((lk_go (by decide +kernel)).trans ((lk_go (by decide +kernel)).trans rfl)), upd_upd]
    refine ⟨_, rfl, _, rfl, p, c.cR, dx, _, rfl, upd_same, T.clRun, T.nRun_open_ones, (by show 3 < 1000; decide), ?_⟩
    rw [show putF "open_ones" (V.ref r.o) ([("taken", V.ref r.t), ("first", V.ref r.f), ("last", V.ref r.l)] : List (Str × V)) = ([("taken", V.ref r.t), ("first", V.ref r.f), ("last", V.ref r.l), ("open_ones", V.ref r.o)] : List (Str × V)) from putF_app ((lk_go (by decide +kernel)).trans ((lk_go (by decide +kernel)).trans ((lk_go (by decide +kernel)).trans rfl))), upd_upd]
    exact k
/-! ### Skip.__init__ -/
def spSkipI (c : Cs) : Sp := fun vs H Q _ => ∃ (p dx : Addr) (a b : Nat), vs = [.ref p, I a, I b] ∧ H p = some (.ins c.cK dx []) ∧ ∀ d, H d = none → Q .non (upd (upd H p (.ins c.cK dx (fsSkip ⟨a, b, 0, d⟩))) d (.dK []))
abbrev sSkipI : Stmt := inClass (top 34) 0
theorem scSkipI : FnScope ["self", "way", "pivot"] ["self", "way", "pivot"] (defScope sSkipI) := ⟨rfl, rfl, rfl, by decide +kernel, rfl, by decide +kernel, by decide +kernel⟩
theorem upd_comm {H : Hp} {a b : Addr} {o u : HO} (h : a ≠ b) : upd (upd H a o) b u = upd (upd H b u) a o := by
  funext x
  by_cases h1 : x = a
  · rw [h1, upd_ne h, upd_same, upd_same]
  · by_cases h2 : x = b
    · rw [h2, upd_same, upd_ne (Ne.symm h), upd_same]
    · rw [upd_ne h2, upd_ne h1, upd_ne h1, upd_ne h2]
theorem ok_skipI {f : Addr} {fd : FuncData} (F : Fun K "__init__" "Skip.__init__" sSkipI f fd) (T : Txt K c) : FnOk P w K mg base CX0 1 f fd ["self", "way", "pivot"] (spSkipI c) := by
  refine F.ok scSkipI ?_ ?_
  · rintro vs H Q E ⟨p, dx, a, b, rfl, _⟩
    rfl
  · intro cdv A outer s H vs Q E hr h
    refine ⟨_, (pss_cons (ps_fld (pv 0) (pv 1) rfl)
      (pss_cons (ps_fld (pv 0) (pv 2) rfl)
      (pss_cons (ps_fld (pv 0) pe_int rfl)
      (pss_one (ps_fld (pv 0) pe_dnewK rfl))))), ?_⟩
    obtain ⟨p, dx, a, b, rfl, hp, k⟩ := h
    refine ⟨_, rfl, _, rfl, p, c.cK, dx, _, rfl, hp, T.clSkip, T.nSkip_way, (by show 0 < 1000; decide), ?_⟩
    refine ⟨_, rfl, _, rfl, p, c.cK, dx, _, rfl, upd_same, T.clSkip, T.nSkip_pivot, (by show 1 < 1000; decide), ?_⟩
    refine ⟨_, rfl, p, c.cK, dx, _, rfl, upd_same, T.clSkip, T.nSkip_shut_to, (by show 2 < 1000; decide), ?_⟩
    rw [upd_upd, upd_upd]
    intro d nd
    have ne : p ≠ d := ne_of_none (upd_same (H := H) (a := p)) nd
    have nd' : H d = none := by
      rw [upd_ne (Ne.symm ne)] at nd
      exact nd
    refine ⟨_, rfl, p, c.cK, dx, _, rfl, (by rw [upd_ne ne]; exact upd_same), T.clSkip, T.nSkip_shut_begins, (by show 3 < 1000; decide), ?_⟩
    have e := k d nd'
    rw [show putF "shut_begins" (V.ref d) (putF "shut_to" (V.int 0) (putF "pivot" (I b) (putF "way" (I a) []))) = fsSkip ⟨a, b, 0, d⟩ from by
      rw [show putF "way" (I a) [] = ([("way", I a)] : List (Str × V)) from rfl, show putF "pivot" (I b) ([("way", I a)] : List (Str × V)) = ([("way", I a), ("pivot", I b)] : List (Str × V)) from putF_app ((lk_go (by decide +kernel)).trans rfl), show putF "shut_to" (V.int 0) ([("way", I a), ("pivot", I b)] : List (Str × V)) = ([("way", I a), ("pivot", I b), ("shut_to", .int 0)] : List (Str × V)) from putF_app ((lk_go (by decide +kernel)).trans ((lk_go (by decide +kernel)).trans rfl)),
        show putF "shut_begins" (V.ref d) ([("way", I a), ("pivot", I b), ("shut_to", .int 0)] : List (Str × V)) = ([("way", I a), ("pivot", I b), ("shut_to", .int 0), ("shut_begins", .ref d)] : List (Str × V)) from putF_app ((lk_go (by decide +kernel)).trans ((lk_go (by decide +kernel)).trans ((lk_go (by decide +kernel)).trans rfl)))]
      rfl, upd_comm (Ne.symm ne), upd_upd]
    exact e
/-! ### Run.begin, Run.stage -/
def spBegin (c : Cs) : Sp := fun vs H Q _ => ∃ (a : Addr) (r : RunR) (e : EvR), vs = [.ref a] ∧ RunO c H a r ∧ EvAt c H r.f e ∧ Q (I e.i) H
abbrev sBegin : Stmt := inClass (top 19) 1
theorem scBegin : FnScope ["self"] ["self"] (defScope sBegin) := ⟨rfl, rfl, rfl, by decide +kernel, rfl, by decide +kernel, by decide +kernel⟩
theorem ok_begin {f : Addr} {fd : FuncData} (F : Fun K "begin" "Run.begin" sBegin f fd) (T : Txt K c) : FnOk P w K mg base CX0 1 f fd ["self"] (spBegin c) := by
  refine F.ok scBegin ?_ ?_
  · rintro vs H Q E ⟨a, r, e, rfl, _⟩
    rfl
  · intro cdv A outer s H vs Q E hr h
    refine ⟨_, pss_one (ps_ret (pe_fld (pe_fld (pv 0) rfl) rfl)), ?_⟩
    obtain ⟨a, r, e, rfl, hr', he, q⟩ := h
    exact ⟨_, rfl, T.run_first hr' (T.event_number he q)⟩
theorem key_last {H : Hp} {t : Addr} {ps : List (Int × Int)} {p : Int × Int} (h : KeyAt H t ps) (hl : ps.getLast? = some p) : ∃ (ts : List Addr) (b : Addr), H t = some (.tup (ts.map V.ref)) ∧ atI (ts.map V.ref) (-1) = some (V.ref b) ∧ H b = some (.tup [.int p.1, .int p.2]) := by
  obtain ⟨ts, e, hp⟩ := h
  have hlen := pair_len hp
  rw [List.getLast?_eq_getElem?] at hl
  obtain ⟨b, hb, hb2⟩ := pair_get' hp hl
  refine ⟨ts, b, e, ?_, hb2⟩
  have hpos : 0 < ps.length := by
    cases ps with
    | nil => simp at hl
    | cons a r => simp
  show (ixN (ts.map V.ref).length (-1)).bind (fun j => (ts.map V.ref)[j]?) = _
  have e1 : ixN (ts.map V.ref).length (-1) = some (ps.length - 1) := by
    unfold ixN
    rw [List.length_map, hlen, if_neg (by decide), if_pos (by omega)]
    congr 1
    omega
  rw [e1]
  show (ts.map V.ref)[ps.length - 1]? = _
  rw [List.getElem?_map, hb]
  rfl
def spStageM (c : Cs) : Sp := fun vs H Q _ => ∃ (a : Addr) (q : RunR) (ps : List (Int × Int)) (p : Int × Int), vs = [.ref a] ∧ RunO c H a q ∧ KeyAt H q.t ps ∧ ps.getLast? = some p ∧ Q (.int p.2) H
abbrev sStageM : Stmt := inClass (top 19) 2
theorem scStageM : FnScope ["self"] ["self"] (defScope sStageM) := ⟨rfl, rfl, rfl, by decide +kernel, rfl, by decide +kernel, by decide +kernel⟩
theorem ok_stageM {f : Addr} {fd : FuncData} (F : Fun K "stage" "Run.stage" sStageM f fd) (T : Txt K c) : FnOk P w K mg base CX0 1 f fd ["self"] (spStageM c) := by
  refine F.ok scStageM ?_ ?_
  · rintro vs H Q E ⟨a, q, ps, p, rfl, _⟩
    rfl
  · intro cdv A outer s H vs Q E hr h
    refine ⟨_, pss_one (ps_ret (pe_ix ix_tup (pe_ix ix_tup (pe_fld (pv 0) rfl) (pe_un un_neg pe_int) (fun _ _ => rfl)) pe_int (fun _ _ => rfl))), ?_⟩
    obtain ⟨a, q, ps, p, rfl, hq, hk, hl, k⟩ := h
    obtain ⟨ts, b, e1, e2, e3⟩ := key_last hk hl
    refine ⟨_, rfl, T.run_taken hq ⟨_, rfl, q.t, _, _, _, rfl, rfl, .inl (.inl e1), e2, b, _, _, _, rfl, rfl, .inl (.inl e3), ?_, k⟩⟩
    exact atI_nat (xs := [V.int p.1, V.int p.2]) (j := 1) (v := V.int p.2) rfl
end
end G

/-! ## PRd4 -/
/-! fits, is_in_time, following, stays_open. -/
namespace G
open PySem PySem.Spec PyProof.Rows L2
abbrev EvR.ev (e : EvR) : Hs10.Ev := ⟨e.k, e.v, e.t⟩
theorem fits_path (x : Hs10.Stage) {path : List Hs10.Taken} {y z : Hs10.Taken} (k v t : Nat) (h1 : path.head? = some y) (h2 : path.getLast? = some z) (h6 : x.test ≤ 6) : Hs10.fits x path ⟨k, v, t⟩ = (kindB x k && passB x v y.value z.value) := by
  unfold Hs10.fits kindB passB
  rw [h1, h2]
  congr 1
  have hb : ∀ a b : Nat, (a == b) = decide (a = b) := fun a b => by
    rw [Bool.eq_iff_iff]
    simp
  match h : x.test with
  | 0 => rfl
  | 1 => exact hb _ _
  | 2 => rfl
  | 3 => rfl
  | 4 => rfl
  | 5 => rfl
  | 6 => exact hb _ _
  | n + 7 => omega
section
variable {P : Program} {w : World} {K : PySem.W.Frag} {mg : Str → Option Value} {base : Heap} {c : Cs}
/-! ### fits -/
def spFits (c : Cs) : Sp := fun vs H Q _ => ∃ (a ra b : Addr) (x : Hs10.Stage) (r : Hs10.Run) (e : EvR), vs = [.ref a, .ref ra, .ref b] ∧ StageAt c H a x ∧ x.test ≤ 6 ∧ RunAt c H ra r ∧ EvAt c H b e ∧ ∀ H', Same H H' → Q (.bl (Hs10.fits x r.path e.ev)) H'
abbrev sFits : Stmt := top 22
theorem scFits : FnScope ["stage", "run", "event"] ["stage", "run", "event"] (defScope sFits) := ⟨rfl, rfl, rfl, by decide +kernel, rfl, by decide +kernel, by decide +kernel⟩
theorem ok_fits {f f1 f2 : Addr} {fd fd1 fd2 : FuncData} (F : Fun K "fits" "fits" sFits f fd) (T : Txt K c) (D1 : Df K mg "is_of_kind" sKind ["stage", "event"] f1 fd1) (D2 : Df K mg "is_passed" sPassed ["stage", "value", "first", "last"] f2 fd2)
    (G1 : FnOk P w K mg base CX0 1 f1 fd1 ["stage", "event"] (spKind c)) (G2 : FnOk P w K mg base CX0 1 f2 fd2 ["stage", "value", "first", "last"] (spPassed c)) : FnOk P w K mg base CX0 2 f fd ["stage", "run", "event"] (spFits c) := by
  refine F.ok scFits ?_ ?_
  · rintro vs H Q E ⟨a, ra, b, x, r, e, rfl, _⟩
    rfl
  · intro cdv A outer s H vs Q E hr h
    refine ⟨_, pss_one (ps_ret (pe_and (pe_call G1 hr rfl D1.g D1.F.kp D1.b .nil pass0 (pa_cons (pv 0) (pa_cons (pv 2) pa_nil))) (pe_one (pe_call G2 hr rfl D2.g D2.F.kp D2.b .nil pass0 (pa_cons (pv 0) (pa_cons (pe_fld (pv 2) rfl) (pa_cons (pe_fld (pe_fld (pv 1) rfl) rfl) (pa_cons (pe_fld (pe_fld (pv 1) rfl) rfl) pa_nil)))))))), ?_⟩
    obtain ⟨a, ra, b, x, r, e, rfl, hx, h6, hra, he, q⟩ := h
    obtain ⟨rr, y, z, k1, k2, hro, hri⟩ := hra
    rw [fits_path x e.k e.v e.t hri.hd hri.lt h6] at q
    refine ⟨_, rfl, _, rfl, a, b, x, e, rfl, hx, he, fun H' s' => ⟨_, rfl, ?_⟩⟩
    cases hk : kindB x e.k with
    | false =>
      rw [hk] at q
      exact iteF (q H' s')
    | true =>
      rw [hk] at q
      refine iteT ⟨_, rfl, _, rfl, T.event_value (he.same s') ⟨_, rfl, T.run_first (hro.same s') (T.event_value (hri.first.same s') ⟨_, rfl, T.run_last (hro.same s') (T.event_value (hri.last.same s') ?_)⟩)⟩⟩
      exact ⟨a, x, e.v, y.value, z.value, rfl, hx.same s', q H' s'⟩
/-! ### is_in_time -/
def spTime (c : Cs) : Sp := fun vs H Q _ => ∃ (ra b : Addr) (p : Hs10.Pattern) (r : Hs10.Run) (e : EvR), vs = [.ref ra, .ref b, I p.within] ∧ RunAt c H ra r ∧ EvAt c H b e ∧ Q (.bl (Hs10.inTime p r.path e.ev)) H
abbrev sTime : Stmt := top 23
theorem scTime : FnScope ["run", "event", "limit"] ["run", "event", "limit"] (defScope sTime) := ⟨rfl, rfl, rfl, by decide +kernel, rfl, by decide +kernel, by decide +kernel⟩
theorem ok_time {f : Addr} {fd : FuncData} (F : Fun K "is_in_time" "is_in_time" sTime f fd) (T : Txt K c) : FnOk P w K mg base CX0 1 f fd ["run", "event", "limit"] (spTime c) := by
  refine F.ok scTime ?_ ?_
  · rintro vs H Q E ⟨ra, b, p, r, e, rfl, _⟩
    rfl
  · intro cdv A outer s H vs Q E hr h
    refine ⟨_, pss_one (ps_ret (pe_or (pe_cmpR op_eq (pv 2) pe_int (nomark _)) (pe_one (pe_cmpR op_le (pe_fld (pv 1) rfl) (pe_op op_add (pe_fld (pe_fld (pv 0) rfl) rfl) (pv 2)) (nomark _))))), ?_⟩
    obtain ⟨ra, b, p, r, e, rfl, ⟨rr, y, z, k1, k2, hro, hri⟩, he, q⟩ := h
    refine ⟨_, rfl, rfl, _, rfl, ifd (dE p.within 0) (fun h0 => ?_) (fun h0 => ?_)⟩
    · have hq : Hs10.inTime p r.path e.ev = true := by
        unfold Hs10.inTime
        rw [h0]
        rfl
      rw [hq] at q
      exact q
    · refine ⟨_, rfl, T.event_time he ⟨_, rfl, T.run_first hro (T.event_time hri.first ⟨_, rfl, _, _, rfl, rfl, _, _, rfl, rfl, ?_⟩)⟩⟩
      have hq : Hs10.inTime p r.path e.ev = decide ((e.t : Int) ≤ (y.time : Int) + (p.within : Int)) := by
        unfold Hs10.inTime Hs10.firstTime
        have hne : r.path.isEmpty = false := by
          cases hp : r.path with
          | nil =>
            have := hri.hd
            rw [hp] at this
            cases this
          | cons _ _ => rfl
        rw [show (p.within == 0) = false by simpa using h0, hne, hri.hd, Bool.false_or, Bool.false_or]
        show decide (e.t ≤ y.time + p.within) = _
        congr 1
        apply propext
        omega
      rw [hq] at q
      exact q
/-! ### following -/
theorem path_last {r : Hs10.Run} {z : Hs10.Taken} (h : r.path.getLast? = some z) : Hs10.lastStage r = z.stage := by
  unfold Hs10.lastStage
  rw [h]
theorem pk_last {r : Hs10.Run} {z : Hs10.Taken} (h : r.path.getLast? = some z) : (r.path.map pk).getLast? = some (pk z) := by
  rw [List.getLast?_map, h]
  rfl
def spFollow (c : Cs) : Sp := fun vs H Q _ => ∃ (a ra : Addr) (p : Hs10.Pattern) (r : Hs10.Run) (t : Nat), vs = [.ref a, .ref ra, I (t + 1)] ∧ StagesAt c H a p.stages ∧ t < p.stages.length ∧ RunAt c H ra r ∧ Q (I (Hs10.how p (Hs10.lastStage r) t)) H
abbrev sFollow : Stmt := top 24
theorem scFollow : FnScope ["stages", "run", "number"] ["stages", "run", "number"] (defScope sFollow) := ⟨rfl, rfl, rfl, by decide +kernel, rfl, by decide +kernel, by decide +kernel⟩
/-- a method of the text -/
structure Mt (K : PySem.W.Frag) (C : Addr) (x qual : Str) (s : Stmt) (ps : List Str) (f : Addr) (fd : FuncData) : Prop where
  F : Fun K x qual s f fd
  m : Meth K C x f
  b : Binds K fd ps []
theorem ok_follow {f f1 : Addr} {fd fd1 : FuncData} (F : Fun K "following" "following" sFollow f fd) (T : Txt K c) (M1 : Mt K c.cR "stage" "Run.stage" sStageM ["self"] f1 fd1) (G1 : FnOk P w K mg base CX0 1 f1 fd1 ["self"] (spStageM c)) : FnOk P w K mg base CX0 2 f fd ["stages", "run", "number"] (spFollow c) := by
  refine F.ok scFollow ?_ ?_
  · rintro vs H Q E ⟨a, ra, p, r, t, rfl, _⟩
    rfl
  · intro cdv A outer s H vs Q E hr h
    refine ⟨_, (pss_cons (ps_if (pt_cmpR op_eq (pv 2) (pe_meth0 (pv 1) T.clRun M1.m G1 hr M1.b .nil pass0) (nomark _)) (pss_one (ps_ret (pe_fld (pe_ix ix_list (pv 0) (pe_op op_sub (pv 2) pe_int) (fun _ _ => rfl)) rfl))) pss_nil)
      (pss_one (ps_ret (pe_fld (pe_ix ix_list (pv 0) (pe_op op_sub (pv 2) pe_int) (fun _ _ => rfl)) rfl)))), ?_⟩
    obtain ⟨a, ra, p, r, t, rfl, ⟨as, ha, hp⟩, ht, ⟨rr, y, z, k1, k2, ⟨dx, hro⟩, hri⟩, q⟩ := h
    obtain ⟨b, hb, hx⟩ := pair_get' hp (stage_get ht)
    have hb' : (as.map V.ref)[t]? = some (V.ref b) := by
      rw [List.getElem?_map, hb]
      rfl
    have et : ((t + 1 : Nat) : Int) - 1 = ((t : Nat) : Int) := by omega
    have hat : atI (as.map V.ref) (((t + 1 : Nat) : Int) - 1) = some (V.ref b) := by
      rw [et]
      exact atI_nat hb'
    refine ⟨_, rfl, _, rfl, ra, dx, _, rfl, hro, fsRun_no_stage _, ra, rr, _, pk z, rfl, ⟨dx, hro⟩, hri.key, pk_last hri.lt, rfl, _, rfl, ifd (dE (t + 1) (z.stage + 1)) (fun h0 => ?_) (fun h0 => ?_)⟩
    · have e0 : Hs10.how p (Hs10.lastStage r) t = (Hs10.stage p t).inner := by
        unfold Hs10.how
        rw [path_last hri.lt, if_pos (by omega), show z.stage = t by omega]
      rw [e0] at q
      exact ⟨_, rfl, _, rfl, _, _, rfl, rfl, a, _, _, _, rfl, rfl, SqL.lst ha, hat, T.stage_repeats hx q⟩
    · have e0 : Hs10.how p (Hs10.lastStage r) t = (Hs10.stage p t).follow := by
        unfold Hs10.how
        rw [path_last hri.lt, if_neg (by omega)]
      rw [e0] at q
      exact ⟨_, rfl, _, rfl, _, _, rfl, rfl, a, _, _, _, rfl, rfl, SqL.lst ha, hat, T.stage_follows hx q⟩
/-! ### stays_open -/
theorem how_le {p : Hs10.Pattern} (h : StagesOk p) {a t : Nat} (ht : t < p.stages.length) : Hs10.how p a t ≤ 2 := by
  unfold Hs10.how
  have hm := h.one _ (List.mem_of_getElem? (stage_get ht))
  split
  · rename_i e
    rw [← e]
    exact hm.2.2.1
  · exact hm.2.1
def spStays (c : Cs) : Sp := fun vs H Q _ => ∃ (a ra b : Addr) (p : Hs10.Pattern) (r : Hs10.Run) (t : Nat) (e : EvR), vs = [.ref a, .ref ra, I (t + 1), .ref b] ∧ StagesAt c H a p.stages ∧ StagesOk p ∧ t < p.stages.length ∧ RunAt c H ra r ∧ EvAt c H b e ∧
  ∀ H', Same H H' → Q (.bl (Hs10.staysOpen p e.ev r t)) H'
abbrev sStays : Stmt := top 25
theorem scStays : FnScope ["stages", "run", "number", "event", "way", "stage"] ["stages", "run", "number", "event"] (defScope sStays) := ⟨rfl, rfl, rfl, by decide +kernel, rfl, by decide +kernel, by decide +kernel⟩
theorem ok_stays {f f1 f2 f3 f4 : Addr} {fd fd1 fd2 fd3 fd4 : FuncData} (F : Fun K "stays_open" "stays_open" sStays f fd) (T : Txt K c) (M1 : Mt K c.cR "stage" "Run.stage" sStageM ["self"] f1 fd1) (G1 : FnOk P w K mg base CX0 1 f1 fd1 ["self"] (spStageM c))
    (D2 : Df K mg "following" sFollow ["stages", "run", "number"] f2 fd2) (G2 : FnOk P w K mg base CX0 2 f2 fd2 ["stages", "run", "number"] (spFollow c)) (D3 : Df K mg "fits" sFits ["stage", "run", "event"] f3 fd3) (G3 : FnOk P w K mg base CX0 2 f3 fd3 ["stage", "run", "event"] (spFits c))
    (D4 : Df K mg "barred_between" sBarred ["stages", "number", "other"] f4 fd4) (G4 : FnOk P w K mg base CX0 1 f4 fd4 ["stages", "number", "other"] (spBarred c)) (m1 : CI mg "AT_ONCE" 0) (m2 : CI mg "NEXT_FITTING" 1) (mAny : mg "any" = none) :
    FnOk P w K mg base CX0 3 f fd ["stages", "run", "number", "event"] (spStays c) := by
  obtain ⟨t1, m1⟩ := m1
  obtain ⟨t2, m2⟩ := m2
  refine F.ok scStays ?_ ?_
  · rintro vs H Q E ⟨a, ra, b, p, r, t, e, rfl, _⟩
    rfl
  · intro cdv A outer s H vs Q E hr h
    have hr1 : Room 1 _ := hr.mono (by decide)
    refine ⟨_, (pss_cons (ps_set (i := 4) scStays.nd rfl (Or.inl rfl) (pe_call G2 hr rfl D2.g D2.F.kp D2.b .nil pass0 (pa_cons (pv 0) (pa_cons (pv 1) (pa_cons (pv 2) pa_nil)))))
      (pss_cons (ps_if (PW.pt (pw_or (pt_cmpR op_eq (pv 4) (pe_glob (v := .int 0) rfl m1 ⟨_, rfl⟩) (nomark _)) (pw_or1 (PW.pt (pw_and (pt_cmpR op_eq (pv 4) (pe_glob (v := .int 1) rfl m2 ⟨_, rfl⟩) (nomark _)) (pw_and1 (pt_val (pe_call G3 hr rfl D3.g D3.F.kp D3.b .nil pass0 (pa_cons (pe_ix ix_list (pv 0) (pe_op op_sub (pv 2) pe_int) (fun _ _ => rfl)) (pa_cons (pv 1) (pa_cons (pv 3) pa_nil))))))))))) (pss_one (ps_ret pe_bl)) pss_nil)
      (pss_one (ps_ret (pe_not (pe_callB (cr_any rfl) (by rfl) mAny (by decide +kernel) (pa_cons (pe_lc (own := [("stage", 5)]) (g := gName 5) (tt := tYes) (te := tCall (spFits c) [] E0 (tCons (tVar 5) (tCons (tVar 1) (tCons (tVar 3) tNil)))) rfl scStays.nd (pi_list (pe_call G4 hr1 rfl D4.g D4.F.kp D4.b .nil pass0 (pa_cons (pv 0) (pa_cons (pe_meth0 (pv 1) T.clRun M1.m G1 hr1 M1.b .nil pass0) (pa_cons (pv 2) pa_nil))))) (blkOk_by (N := ["stages", "run", "number", "event", "way", "stage"]) (sc := defScope sStays) (by decide +kernel)) (fun _ _ _ _ _ => pg_name (i := 5) scStays.nd rfl (Or.inl rfl)) (fun _ _ _ _ _ => pts_nil) (fun _ _ _ _ _ => (pe_call G3 hr rfl D3.g D3.F.kp D3.b .nil pass0 (pa_cons (pv 5) (pa_cons (pv 1) (pa_cons (pv 3) pa_nil)))))) pa_nil))))))), ?_⟩
    obtain ⟨a, ra, b, p, r, t, e, rfl, hst, hok, ht, hra, he, q⟩ := h
    have hw := how_le (p := p) hok (a := Hs10.lastStage r) ht
    -- what is told when the stage is not shut by its own way
    have last : ∀ (H1 : Hp) (D : Ends) (v : V), Same H H1 → D.rt = Q → Hs10.staysOpen p e.ev r t = !((Hs10.between p (Hs10.lastStage r + 1) t).any fun k => Hs10.isNot (Hs10.stage p k) && Hs10.fits (Hs10.stage p k) r.path e.ev) →
        (tRet (tNotV (tCB (rAny K) (tCons (tLc (iList K (tCall (spBarred c) [] E0 (tCons (tVar 0) (tCons (tMeth c.cR "stage" (spStageM c) [] E0 (tVar 1) tNil) (tCons (tVar 2) tNil))))) (gName 5) tYes (tCall (spFits c) [] E0 (tCons (tVar 5) (tCons (tVar 1) (tCons (tVar 3) tNil)))) [5]) tNil)))) D
          [some (.ref a), some (.ref ra), some (I (t + 1)), some (.ref b), some v, none] H1 := by
      intro H1 D v s1 hD hs
      obtain ⟨rr, y, z, k1, k2, ⟨dx, hro⟩, hri⟩ := hra.same s1
      refine ⟨_, rfl, _, rfl, ra, dx, _, rfl, hro, fsRun_no_stage _, ra, rr, _, pk z, rfl, ⟨dx, hro⟩, hri.key, pk_last hri.lt, _, rfl, a, p.stages, z.stage + 1, t, rfl, hst.same s1, hok.high, fun H2 l bs s2 nl el hbs => ?_⟩
      refine ⟨l, rfl, ⟨_, SqL.lst el⟩, fun D' nD => ?_⟩
      have s02 : Same H H2 := s1.trans s2
      refine lc_pure (bs.zip (((p.stages.take t).drop (z.stage + 1)).filter Hs10.isNot)) (fun p => V.ref p.1) (fun _ => true) (fun q => V.bl (Hs10.fits q.2 r.path e.ev)) nD ?_ ?_ (fun y hy H3 s3 Y N hY hN => ⟨rfl, ?_⟩) (fun H3 s3 eD => ?_)
      · rw [← zip_refs hbs]
        exact SqL.lst el
      · rw [zip_len hbs]
        have h1 := List.length_filter_le Hs10.isNot ((p.stages.take t).drop (z.stage + 1))
        rw [List.length_drop, List.length_take] at h1
        have : sizeLine = 16777216 := sizeLine_eq
        have := hok.high
        omega
      · have s03 : Same H H3 := s02.trans s3
        have hmem : y.2 ∈ p.stages := by
          have h1 : y.2 ∈ ((p.stages.take t).drop (z.stage + 1)).filter Hs10.isNot := (List.of_mem_zip hy).2
          exact List.mem_of_mem_take (List.mem_of_mem_drop (List.mem_filter.mp h1).1)
        exact ⟨_, rfl, _, rfl, _, rfl, y.1, ra, b, y.2, r, e, rfl, (zip_has hbs y hy).same s3, (hok.one _ hmem).2.2.2, hra.same s03, he.same s03, fun H4 s4 => hY H4 s4 rfl⟩
      · refine ⟨D', (((p.stages.take t).drop (z.stage + 1)).filter Hs10.isNot).map fun x => Hs10.fits x r.path e.ev, rfl, ?_, _, rfl, ?_⟩
        · rw [filter_true, zip_snd (fun x => V.bl (Hs10.fits x r.path e.ev)) hbs] at eD
          rw [List.map_map]
          exact SqL.lst eD
        · have q' := q H3 (s02.trans s3)
          have e4 : Hs10.staysOpen p e.ev r t = !((((p.stages.take t).drop (z.stage + 1)).filter Hs10.isNot).map fun x => Hs10.fits x r.path e.ev).any id := by
            rw [hs, path_last hri.lt, ← barred_any p (z.stage + 1) t (Nat.le_of_lt ht) (fun x => Hs10.fits x r.path e.ev), List.any_map]
            rfl
          rw [e4] at q'
          show D.rt _ _
          rw [hD]
          exact q'
    have unf : Hs10.staysOpen p e.ev r t = ((Hs10.how p (Hs10.lastStage r) t == 2 || (Hs10.how p (Hs10.lastStage r) t == 1 && !Hs10.fits (Hs10.stage p t) r.path e.ev)) && !((Hs10.between p (Hs10.lastStage r + 1) t).any fun k => Hs10.isNot (Hs10.stage p k) && Hs10.fits (Hs10.stage p k) r.path e.ev)) := rfl
    obtain ⟨as, ha, hp⟩ := hst
    obtain ⟨b0, hb0, hx0⟩ := pair_get' hp (stage_get ht)
    have hb0' : (as.map V.ref)[t]? = some (V.ref b0) := by
      rw [List.getElem?_map, hb0]
      rfl
    have et : ((t + 1 : Nat) : Int) - 1 = ((t : Nat) : Int) := by omega
    have hat : atI (as.map V.ref) (((t + 1 : Nat) : Int) - 1) = some (V.ref b0) := by
      rw [et]
      exact atI_nat hb0'
    refine ⟨_, rfl, _, rfl, _, rfl, a, ra, p, r, t, rfl, ⟨as, ha, hp⟩, ht, hra, ?_⟩
    refine ⟨_, rfl, rfl, _, rfl, ifd (dE _ 0) (fun h0 => ?_) (fun h0 => ?_)⟩
    · refine iteT ?_
      have q' := q H (Same.refl H)
      rw [unf, h0] at q'
      exact q'
    · refine ⟨_, rfl, rfl, _, rfl, ifd (dE _ 1) (fun h1 => ?_) (fun h1 => ?_)⟩
      · refine ⟨_, rfl, _, rfl, _, _, rfl, rfl, a, _, _, _, rfl, rfl, SqL.lst ha, hat, _, rfl, _, rfl, b0, ra, b, _, r, e, rfl, hx0, (hok.one _ (List.mem_of_getElem? (stage_get ht))).2.2.2, hra, he, fun H1 s1 => ⟨_, rfl, ?_⟩⟩
        cases hf : Hs10.fits (Hs10.stage p t) r.path e.ev with
        | true =>
          refine iteT ?_
          have q' := q H1 s1
          rw [unf, h1, hf] at q'
          exact q'
        | false =>
          refine iteF (last H1 _ _ s1 rfl ?_)
          rw [unf, h1, hf]
          rfl
      · refine iteF (last H _ _ (Same.refl H) rfl ?_)
        have h2 : Hs10.how p (Hs10.lastStage r) t = 2 := by omega
        rw [unf, h2]
        rfl
end
end G

/-! ## PRd5 -/
/-! begun, longer, passed_by, taking. -/
namespace G
open PySem PySem.Spec PyProof.Rows L2
/-- [a new run for each of ys] -/
theorem lc_make {α : Type} {K : PySem.W.Frag} {c : Cs} {a : Addr} {g : TG} {tt : TT} {te : TE} {vs : List Nat} {σ : L2.St} {H1 G1 : Hp} {D : Addr} {Qd : Hp → Prop} (ys : List α) (f : α → V) (res : α → Hs10.Run) (s0 : Same G1 H1) (hD : H1 D = none) (hl : SqL K H1 a (ys.map f)) (hz : ys.length < sizeLine)
    (hs : ∀ y ∈ ys, ∀ H G, Fr H1 G1 H G → ∀ (Y : V → Hp → Prop) (N : Hp → Prop), (∀ H' G' x, Fr H G H' G' → RunAt c G' x (res y) → Y (.ref x) H') →
      g (f y) (wipe σ vs) H fun σ2 H2 => wipe σ2 vs = wipe σ vs ∧ tt σ2 H2 fun b H3 => if b = true then te σ2 H3 Y else N H3)
    (hd : ∀ H G as, Fr H1 G1 H G → G D = none → H D = some (.lst (as.map V.ref)) → Runs c G as (ys.map res) → Qd H) : LcW K a g tt te vs σ H1 D Qd := by
  refine lc_list (xs := ys.map f) (fun i H => ∃ G as, Fr H1 G1 H G ∧ G D = none ∧ H D = some (.lst (as.map V.ref)) ∧ Runs c G as ((ys.take i).map res)) ⟨G1, [], (Fr.refl s0).only hD _, s0.free hD, upd_same, .nil⟩ (fun i H _ ⟨_, _, p, _⟩ => p.all.seq hl) ?_ ?_
  · rintro i x H hx ⟨G, as, fr, n1, e1, r1⟩
    obtain ⟨y, hy, rfl⟩ := get_map hx
    have hm : y ∈ ys := List.mem_of_getElem? hy
    refine hs y hm H G fr _ _ (fun H' G' x fr' rx => ?_)
    have n2 : G' D = none := fr'.stay e1 n1
    refine ⟨_, fr'.keep e1, ?_, G', as ++ [x], (fr.trans fr').poke hD n2 _, n2, by rw [upd_same, List.map_append]; rfl, ?_⟩
    · have h1 := pair_len r1
      rw [List.length_map, h1, List.length_map, List.length_take]
      omega
    · rw [take_next hy, List.map_append]
      exact pair_snoc rx (runs_same r1 fr'.up)
  · rintro H ⟨G, as, fr, n1, e1, r1⟩
    rw [List.length_map, List.take_length] at r1
    exact hd H G as fr n1 e1 r1
theorem key_snoc {H : Hp} {ts : List Addr} {ps : List (Int × Int)} {t b : Addr} {p : Int × Int} (h : Paired (fun b (p : Int × Int) => H b = some (.tup [.int p.1, .int p.2])) ts ps) (ht : H t = some (.tup ((ts ++ [b]).map V.ref))) (hb : H b = some (.tup [.int p.1, .int p.2])) : KeyAt H t (ps ++ [p]) :=
  ⟨ts ++ [b], ht, pair_snoc (F := fun b (p : Int × Int) => H b = some (.tup [.int p.1, .int p.2])) hb h⟩
section
variable {P : Program} {w : World} {K : PySem.W.Frag} {mg : Str → Option Value} {base : Heap} {c : Cs}
/-! ### begun -/
def spBegun (c : Cs) : Sp := fun vs H Q _ => ∃ (G : Hp) (a b : Addr) (p : Hs10.Pattern) (t : Nat) (e : EvR), vs = [.ref a, I (t + 1), .ref b] ∧ Same G H ∧ StagesAt c H a p.stages ∧ p.stages.length ≤ 8 ∧ t < p.stages.length ∧ EvAt c G b e ∧
  ∀ H' G' x, Fr H G H' G' → RunAt c G' x (Hs10.taking p [] t e.i e.ev) → Q (.ref x) H'
abbrev sBegun : Stmt := top 20
theorem scBegun : FnScope ["stages", "number", "event"] ["stages", "number", "event"] (defScope sBegun) := ⟨rfl, rfl, rfl, by decide +kernel, rfl, by decide +kernel, by decide +kernel⟩
theorem ok_begun {f f1 fI : Addr} {fd fd1 fdI : FuncData} (F : Fun K "begun" "begun" sBegun f fd) (T : Txt K c) (D1 : Df K mg "nexts" sNexts ["stages", "number"] f1 fd1) (G1 : FnOk P w K mg base CX0 2 f1 fd1 ["stages", "number"] (spNexts c))
    (MR : Mk K c.cR fI) (gR : mg "Run" = some (.ref c.cR)) (bR : Binds K fdI ["self", "taken", "first", "last", "open_ones"] []) (GR : FnOk P w K mg base CX0 1 fI fdI ["self", "taken", "first", "last", "open_ones"] (spRunI c)) : FnOk P w K mg base CX0 3 f fd ["stages", "number", "event"] (spBegun c) := by
  refine F.ok scBegun ?_ ?_
  · rintro vs H Q E ⟨G, a, b, p, t, e, rfl, _⟩
    rfl
  · intro cdv A outer s H vs Q E hr h
    refine ⟨_, pss_one (ps_ret (pe_make MR GR hr rfl gR bR .nil pass0 (pa_cons (pe_tup (pa_cons (pe_tup (pa_cons (pe_fld (pv 2) rfl) (pa_cons (pv 1) pa_nil))) pa_nil)) (pa_cons (pv 2) (pa_cons (pv 2) (pa_cons (pe_call G1 hr rfl D1.g D1.F.kp D1.b .nil pass0 (pa_cons (pv 0) (pa_cons (pv 1) pa_nil))) pa_nil)))))), ?_⟩
    obtain ⟨G, a, b, p, t, e, rfl, s0, hst, hz, ht, he, q⟩ := h
    refine ⟨_, rfl, T.event_number (he.same s0) ⟨_, rfl, by show 2 ≤ sizeLine; decide, fun t1 n1 => ⟨by show 1 ≤ sizeLine; decide, fun t2 n2 => ?_⟩⟩⟩
    have f1 := ((Fr.refl s0).new n1 (.tup [I e.i, I (t + 1)])).new n2 (.tup [.ref t1])
    refine ⟨_, rfl, _, rfl, _, rfl, _, rfl, a, p, t, rfl, hst.same f1.all, hz, ht, fun H3 o s3 no eo => ?_⟩
    intro x dx nx ndx ne
    have f2 := ((f1.more s3).add (f1.all.free no) eo)
    have f3 := (f2.new ndx (.own x)).new (p := x) (by rw [upd_ne (Ne.symm ne)]; exact nx) (.ins c.cR dx (fsRun ⟨t2, b, b, o⟩))
    refine ⟨x, dx, ⟨t2, b, b, o⟩, rfl, upd_same, ?_⟩
    rw [upd_upd]
    refine ⟨rfl, q _ _ x f3 ⟨⟨t2, b, b, o⟩, ⟨t, e.i, e.v, e.t⟩, ⟨t, e.i, e.v, e.t⟩, e.k, e.k, ⟨dx, upd_same⟩, ?_⟩⟩
    -- what is ours
    have no' : upd (upd G t1 (.tup [I e.i, I (t + 1)])) t2 (.tup [.ref t1]) o = none := f1.sub.free no
    have u2 : Same (upd (upd G t1 (.tup [I e.i, I (t + 1)])) t2 (.tup [.ref t1])) (upd (upd (upd G t1 (.tup [I e.i, I (t + 1)])) t2 (.tup [.ref t1])) o (.lst ((Hs10.nextOnes p t).map fun t => I (t + 1)))) := same_new (Same.refl _) no' _
    have ndx' : (upd (upd (upd G t1 (.tup [I e.i, I (t + 1)])) t2 (.tup [.ref t1])) o (.lst ((Hs10.nextOnes p t).map fun t => I (t + 1)))) dx = none := f2.sub.free ndx
    have nx' : (upd (upd (upd G t1 (.tup [I e.i, I (t + 1)])) t2 (.tup [.ref t1])) o (.lst ((Hs10.nextOnes p t).map fun t => I (t + 1)))) x = none := f2.sub.free nx
    have u3 : Same (upd (upd (upd G t1 (.tup [I e.i, I (t + 1)])) t2 (.tup [.ref t1])) o (.lst ((Hs10.nextOnes p t).map fun t => I (t + 1)))) (upd (upd (upd (upd (upd G t1 (.tup [I e.i, I (t + 1)])) t2 (.tup [.ref t1])) o (.lst ((Hs10.nextOnes p t).map fun t => I (t + 1)))) dx (.own x)) x (.ins c.cR dx (fsRun ⟨t2, b, b, o⟩))) :=
      (same_new (Same.refl _) ndx' _).trans (same_new (Same.refl _) (by rw [upd_ne (Ne.symm ne)]; exact nx') _)
    have ne12 : t1 ≠ t2 := ne_of_none (upd_same (H := H) (a := t1)) n2
    have kt : KeyAt (upd (upd G t1 (.tup [I e.i, I (t + 1)])) t2 (.tup [.ref t1])) t2 [((e.i : Int), ((t + 1 : Nat) : Int))] := ⟨[t1], upd_same, .cons (by rw [upd_ne ne12]; exact upd_same) .nil⟩
    exact ⟨kt.same (u2.trans u3), rfl, rfl, he.same f3.up, he.same f3.up, u3 _ _ upd_same⟩
/-! ### longer -/
def spLonger (c : Cs) : Sp := fun vs H Q _ => ∃ (G : Hp) (a ra b : Addr) (p : Hs10.Pattern) (r : Hs10.Run) (t : Nat) (e : EvR), vs = [.ref a, .ref ra, I (t + 1), .ref b] ∧ Same G H ∧ StagesAt c H a p.stages ∧ p.stages.length ≤ 8 ∧ t < p.stages.length ∧ RunAt c G ra r ∧ r.path.length ≤ 10000 ∧ EvAt c G b e ∧
  ∀ H' G' x, Fr H G H' G' → RunAt c G' x (Hs10.taking p r.path t e.i e.ev) → Q (.ref x) H'
abbrev sLonger : Stmt := top 21
theorem scLonger : FnScope ["stages", "run", "number", "event"] ["stages", "run", "number", "event"] (defScope sLonger) := ⟨rfl, rfl, rfl, by decide +kernel, rfl, by decide +kernel, by decide +kernel⟩
theorem ok_longer {f f1 fI : Addr} {fd fd1 fdI : FuncData} (F : Fun K "longer" "longer" sLonger f fd) (T : Txt K c) (D1 : Df K mg "nexts" sNexts ["stages", "number"] f1 fd1) (G1 : FnOk P w K mg base CX0 2 f1 fd1 ["stages", "number"] (spNexts c))
    (MR : Mk K c.cR fI) (gR : mg "Run" = some (.ref c.cR)) (bR : Binds K fdI ["self", "taken", "first", "last", "open_ones"] []) (GR : FnOk P w K mg base CX0 1 fI fdI ["self", "taken", "first", "last", "open_ones"] (spRunI c)) : FnOk P w K mg base CX0 3 f fd ["stages", "run", "number", "event"] (spLonger c) := by
  refine F.ok scLonger ?_ ?_
  · rintro vs H Q E ⟨G, a, ra, b, p, r, t, e, rfl, _⟩
    rfl
  · intro cdv A outer s H vs Q E hr h
    refine ⟨_, pss_one (ps_ret (pe_make MR GR hr rfl gR bR .nil pass0 (pa_cons (pe_op op_catT (pe_fld (pv 1) rfl) (pe_tup (pa_cons (pe_tup (pa_cons (pe_fld (pv 3) rfl) (pa_cons (pv 2) pa_nil))) pa_nil))) (pa_cons (pe_fld (pv 1) rfl) (pa_cons (pv 3) (pa_cons (pe_call G1 hr rfl D1.g D1.F.kp D1.b .nil pass0 (pa_cons (pv 0) (pa_cons (pv 2) pa_nil))) pa_nil)))))), ?_⟩
    obtain ⟨G, a, ra, b, p, r, t, e, rfl, s0, hst, hz, ht, ⟨rr, y, z, k1, k2, hro, hri⟩, hlen, he, q⟩ := h
    obtain ⟨ts, ets, hts⟩ := hri.key
    have htl : ts.length = r.path.length := by
      rw [pair_len hts, List.length_map]
    have hne : ts ≠ [] := fun z0 => by
      rw [z0] at htl
      have h1 := hri.hd
      rw [List.eq_nil_of_length_eq_zero htl.symm] at h1
      cases h1
    refine ⟨_, rfl, T.run_taken (hro.same s0) ⟨_, rfl, T.event_number (he.same s0) ⟨_, rfl, by show 2 ≤ sizeLine; decide, fun t1 n1 => ⟨by show 1 ≤ sizeLine; decide, fun t2 n2 => ?_⟩⟩⟩⟩
    have f1 := ((Fr.refl s0).new n1 (.tup [I e.i, I (t + 1)])).new n2 (.tup [.ref t1])
    refine ⟨rr.t, t2, ts.map V.ref, [.ref t1], rfl, rfl, .inl (.inl (f1.all _ _ (s0 _ _ ets))), .inl (.inl upd_same), ?_, ?_, fun z0 => (by cases z0), fun _ t3 n3 => ?_⟩
    · intro z0
      exact hne (List.map_eq_nil_iff.mp z0)
    · rw [List.length_map, htl]
      show r.path.length + 1 ≤ sizeLine
      have : sizeLine = 16777216 := sizeLine_eq
      omega
    have e3 : ts.map V.ref ++ [V.ref t1] = (ts ++ [t1]).map V.ref := by
      rw [List.map_append]
      rfl
    rw [e3]
    have f1' := f1.new n3 (.tup ((ts ++ [t1]).map V.ref))
    refine ⟨_, rfl, T.run_first ((hro.same s0).same f1'.all) ⟨_, rfl, _, rfl, _, rfl, a, p, t, rfl, hst.same f1'.all, hz, ht, fun H3 o s3 no eo => ?_⟩⟩
    intro x dx nx ndx ne
    have f2 := ((f1'.more s3).add (f1'.all.free no) eo)
    have f3 := (f2.new ndx (.own x)).new (p := x) (by rw [upd_ne (Ne.symm ne)]; exact nx) (.ins c.cR dx (fsRun ⟨t3, rr.f, b, o⟩))
    refine ⟨x, dx, ⟨t3, rr.f, b, o⟩, rfl, upd_same, ?_⟩
    rw [upd_upd]
    refine ⟨rfl, q _ _ x f3 ⟨⟨t3, rr.f, b, o⟩, y, ⟨t, e.i, e.v, e.t⟩, k1, e.k, ⟨dx, upd_same⟩, ?_⟩⟩
    have no' := f1'.sub.free no
    have u2 := same_new (Same.refl _) no' (.lst ((Hs10.nextOnes p t).map fun t => I (t + 1)))
    have ndx' := f2.sub.free ndx
    have nx' := f2.sub.free nx
    have u3 := (same_new (Same.refl _) ndx' (.own x)).trans (same_new (Same.refl _) (p := x) (by rw [upd_ne (Ne.symm ne)]; exact nx') (.ins c.cR dx (fsRun ⟨t3, rr.f, b, o⟩)))
    have ne12 : t1 ≠ t2 := ne_of_none (upd_same (H := H) (a := t1)) n2
    have ne13 : t1 ≠ t3 := ne_of_none (H := upd (upd H t1 (.tup [I e.i, I (t + 1)])) t2 (.tup [.ref t1])) (by rw [upd_ne ne12]; exact upd_same) n3
    have kt : KeyAt (upd (upd (upd G t1 (.tup [I e.i, I (t + 1)])) t2 (.tup [.ref t1])) t3 (.tup ((ts ++ [t1]).map V.ref))) t3 (r.path.map pk ++ [((e.i : Int), ((t + 1 : Nat) : Int))]) :=
      key_snoc (pair_mono hts fun _ _ z0 => f1'.up _ _ z0) upd_same (by rw [upd_ne ne13, upd_ne ne12]; exact upd_same)
    refine ⟨?_, ?_, ?_, hri.first.same f3.up, he.same f3.up, u3 _ _ upd_same⟩
    · have em : (Hs10.taking p r.path t e.i e.ev).path.map pk = r.path.map pk ++ [((e.i : Int), ((t + 1 : Nat) : Int))] := List.map_append
      rw [em]
      exact kt.same (u2.trans u3)
    · show (r.path ++ [_]).head? = some y
      rw [List.head?_append, hri.hd]
      rfl
    · show (r.path ++ [_]).getLast? = _
      rw [List.getLast?_append]
      rfl
end
end G

/-! ## PRd6 -/
/-! passed_by, taking. -/
namespace G
open PySem PySem.Spec PyProof.Rows L2
section
variable {P : Program} {w : World} {K : PySem.W.Frag} {mg : Str → Option Value} {base : Heap} {c : Cs}
/-! ### passed_by -/
def spPassed_by (c : Cs) : Sp := fun vs H Q _ => ∃ (G : Hp) (a ra b : Addr) (p : Hs10.Pattern) (r : Hs10.Run) (e : EvR), vs = [.ref a, .ref ra, .ref b, I p.within] ∧ Same G H ∧ StagesAt c H a p.stages ∧ StagesOk p ∧ RunAt c G ra r ∧ r.open_.Sublist (List.range p.stages.length) ∧ EvAt c H b e ∧
  ∀ H' G' x, Fr H G H' G' → RunAt c G' x (Hs10.passed p e.ev r) → Q (.ref x) H'
abbrev sPassed_by : Stmt := top 26
theorem scPassed_by : FnScope ["stages", "run", "event", "limit", "left", "number"] ["stages", "run", "event", "limit"] (defScope sPassed_by) := ⟨rfl, rfl, rfl, by decide +kernel, rfl, by decide +kernel, by decide +kernel⟩
theorem ok_passed_by {f f1 f2 fI : Addr} {fd fd1 fd2 fdI : FuncData} (F : Fun K "passed_by" "passed_by" sPassed_by f fd) (T : Txt K c) (D1 : Df K mg "is_in_time" sTime ["run", "event", "limit"] f1 fd1) (G1 : FnOk P w K mg base CX0 1 f1 fd1 ["run", "event", "limit"] (spTime c))
    (D2 : Df K mg "stays_open" sStays ["stages", "run", "number", "event"] f2 fd2) (G2 : FnOk P w K mg base CX0 3 f2 fd2 ["stages", "run", "number", "event"] (spStays c))
    (MR : Mk K c.cR fI) (gR : mg "Run" = some (.ref c.cR)) (bR : Binds K fdI ["self", "taken", "first", "last", "open_ones"] []) (GR : FnOk P w K mg base CX0 1 fI fdI ["self", "taken", "first", "last", "open_ones"] (spRunI c)) : FnOk P w K mg base CX0 4 f fd ["stages", "run", "event", "limit"] (spPassed_by c) := by
  refine F.ok scPassed_by ?_ ?_
  · rintro vs H Q E ⟨G, a, ra, b, p, r, e, rfl, _⟩
    rfl
  · intro cdv A outer s H vs Q E hr h
    have hr1 : Room 1 _ := hr.mono (by decide)
    have hr2 : Room 2 _ := hr.mono (by decide)
    refine ⟨_, (pss_cons (ps_set (i := 4) scPassed_by.nd rfl (Or.inl rfl) (pe_lst pa_nil))
      (pss_cons (ps_if (pt_val (pe_call G1 hr1 rfl D1.g D1.F.kp D1.b .nil pass0 (pa_cons (pv 1) (pa_cons (pv 2) (pa_cons (pv 3) pa_nil))))) (pss_one (ps_setLc (i := 4) (own := [("number", 5)]) (g := gName 5) (tt := tB (tCall (spStays c) [] E0 (tCons (tVar 0) (tCons (tVar 1) (tCons (tVar 5) (tCons (tVar 2) tNil)))))) (te := tVar 5) rfl scPassed_by.nd rfl rfl (sw_true rfl rfl rfl (by decide +kernel)) (pi_list (pe_fld (pv 1) rfl)) (blkOk_by (N := ["stages", "run", "event", "limit", "left", "number"]) (sc := defScope sPassed_by) (by decide +kernel)) (fun _ _ _ _ _ => pg_name (i := 5) scPassed_by.nd rfl (Or.inl rfl)) (fun _ _ _ _ _ => pts_one (pt_val (pe_call G2 hr rfl D2.g D2.F.kp D2.b .nil pass0 (pa_cons (pv 0) (pa_cons (pv 1) (pa_cons (pv 5) (pa_cons (pv 2) pa_nil))))))) (fun _ _ _ _ _ => pv 5))) pss_nil)
      (pss_one (ps_ret (pe_make MR GR hr2 rfl gR bR .nil pass0 (pa_cons (pe_fld (pv 1) rfl) (pa_cons (pe_fld (pv 1) rfl) (pa_cons (pe_fld (pv 1) rfl) (pa_cons (pv 4) pa_nil))))))))), ?_⟩
    obtain ⟨G, a, ra, b, p, r, e, rfl, s0, hst, hok, hra, hsub, he, q⟩ := h
    -- the end: a new run with the open stages in the list at l
    have fin : ∀ (H1 : Hp) (D : Ends) (l : Addr) (v5 : Option V), Same H H1 → H l = none → H1 l = some (.lst ((Hs10.passed p e.ev r).open_.map fun t => I (t + 1))) → D.rt = Q →
        (tRet (tMake c.cR (spRunI c) [] E0 (tCons (tFld K (tVar 1) "taken") (tCons (tFld K (tVar 1) "first") (tCons (tFld K (tVar 1) "last") (tCons (tVar 4) tNil)))))) D [some (.ref a), some (.ref ra), some (.ref b), some (I p.within), some (.ref l), v5] H1 := by
      intro H1 D l v5 s1 nl el hD
      obtain ⟨rr, y, z, k1, k2, hro, hri⟩ := hra
      have hro1 := (hro.same s0).same s1
      refine ⟨_, rfl, T.run_taken hro1 ⟨_, rfl, T.run_first hro1 ⟨_, rfl, T.run_last hro1 ⟨_, rfl, ?_⟩⟩⟩⟩
      intro x dx nx ndx ne
      have f1 : Fr H G H1 (upd G l (.lst ((Hs10.passed p e.ev r).open_.map fun t => I (t + 1)))) := ((Fr.refl s0).more s1).add nl el
      have f2 := (f1.new ndx (.own x)).new (p := x) (by rw [upd_ne (Ne.symm ne)]; exact nx) (.ins c.cR dx (fsRun ⟨rr.t, rr.f, rr.l, l⟩))
      refine ⟨x, dx, ⟨rr.t, rr.f, rr.l, l⟩, rfl, upd_same, rfl, ?_⟩
      rw [upd_upd]
      show D.rt _ _
      rw [hD]
      refine q _ _ x f2 ⟨⟨rr.t, rr.f, rr.l, l⟩, y, z, k1, k2, ⟨dx, upd_same⟩, ?_⟩
      have u3 := (same_new (Same.refl _) (f1.sub.free ndx) (.own x)).trans (same_new (Same.refl _) (p := x) (by rw [upd_ne (Ne.symm ne)]; exact f1.sub.free nx) (.ins c.cR dx (fsRun ⟨rr.t, rr.f, rr.l, l⟩)))
      exact ⟨hri.key.same f2.up, hri.hd, hri.lt, hri.first.same f2.up, hri.last.same f2.up, u3 _ _ upd_same⟩
    refine ⟨Nat.zero_le _, fun l nl => ?_⟩
    have s1 : Same H (upd H l (.lst [])) := same_new (Same.refl H) nl _
    refine ⟨_, rfl, _, rfl, _, rfl, ra, b, p, r, e, rfl, (hra.same s0).same s1, he.same s1, _, rfl, ?_⟩
    cases ht : Hs10.inTime p r.path e.ev with
    | false =>
      refine iteF (fin _ _ l none s1 nl ?_ rfl)
      unfold Hs10.passed
      rw [ht]
      exact upd_same
    | true =>
      obtain ⟨rr, y, z, k1, k2, hro, hri⟩ := hra
      refine iteT ⟨_, rfl, T.run_open_ones ((hro.same s0).same s1) ⟨rr.o, rfl, ⟨_, SqL.lst (s1 _ _ (s0 _ _ hri.op))⟩, fun D nD => ?_⟩⟩
      refine lc_pure r.open_ (fun t => I (t + 1)) (Hs10.staysOpen p e.ev r) (fun t => I (t + 1)) nD (SqL.lst (s1 _ _ (s0 _ _ hri.op))) ?_ (fun t ht2 H2 s2 Y N hY hN => ⟨rfl, ?_⟩) (fun H2 s2 eD => ?_)
      · have h1 := hsub.length_le
        rw [List.length_range] at h1
        exact small8 (Nat.le_trans h1 hok.high)
      · refine ⟨_, rfl, _, rfl, _, rfl, _, rfl, a, ra, b, p, r, t, e, rfl, (hst.same s1).same s2, hok, mem_range_of_sub hsub ht2, ⟨rr, y, z, k1, k2, ((hro.same s0).same s1).same s2, ⟨((hri.key.same s0).same s1).same s2, hri.hd, hri.lt, ((hri.first.same s0).same s1).same s2, ((hri.last.same s0).same s1).same s2, s2 _ _ (s1 _ _ (s0 _ _ hri.op))⟩⟩, (he.same s1).same s2, fun H3 s3 => ⟨_, rfl, ?_⟩⟩
        cases hk : Hs10.staysOpen p e.ev r t with
        | true => exact iteT ⟨_, rfl, hY H3 s3 hk⟩
        | false => exact iteF (hN H3 s3 hk)
      · refine fin H2 _ D none (s1.trans s2) (s1.free nD) ?_ rfl
        unfold Hs10.passed
        rw [ht]
        exact eD
/-! ### taking -/
def spTaking (c : Cs) : Sp := fun vs H Q _ => ∃ (G : Hp) (a ra b : Addr) (p : Hs10.Pattern) (r : Hs10.Run) (e : EvR), vs = [.ref a, .ref ra, .ref b, I p.within] ∧ Same G H ∧ StagesAt c H a p.stages ∧ StagesOk p ∧ RunAt c G ra r ∧ r.path.length ≤ 10000 ∧ r.open_.Sublist (List.range p.stages.length) ∧ EvAt c G b e ∧
  ∀ H' G' l as, Fr H G H' G' → H l = none → H' l = some (.lst (as.map V.ref)) → Runs c G' as (Hs10.grown p e.i e.ev r) → Q (.ref l) H'
abbrev sTaking : Stmt := top 27
theorem scTaking : FnScope ["stages", "run", "event", "limit", "some", "number"] ["stages", "run", "event", "limit"] (defScope sTaking) := ⟨rfl, rfl, rfl, by decide +kernel, rfl, by decide +kernel, by decide +kernel⟩
theorem ok_taking {f f1 f2 f3 : Addr} {fd fd1 fd2 fd3 : FuncData} (F : Fun K "taking" "taking" sTaking f fd) (T : Txt K c) (D1 : Df K mg "is_in_time" sTime ["run", "event", "limit"] f1 fd1) (G1 : FnOk P w K mg base CX0 1 f1 fd1 ["run", "event", "limit"] (spTime c))
    (D2 : Df K mg "fits" sFits ["stage", "run", "event"] f2 fd2) (G2 : FnOk P w K mg base CX0 2 f2 fd2 ["stage", "run", "event"] (spFits c)) (D3 : Df K mg "longer" sLonger ["stages", "run", "number", "event"] f3 fd3) (G3 : FnOk P w K mg base CX0 3 f3 fd3 ["stages", "run", "number", "event"] (spLonger c)) :
    FnOk P w K mg base CX0 4 f fd ["stages", "run", "event", "limit"] (spTaking c) := by
  refine F.ok scTaking ?_ ?_
  · rintro vs H Q E ⟨G, a, ra, b, p, r, e, rfl, _⟩
    rfl
  · intro cdv A outer s H vs Q E hr h
    have hr1 : Room 1 _ := hr.mono (by decide)
    have hr2 : Room 2 _ := hr.mono (by decide)
    refine ⟨_, (pss_cons (ps_if (pt_not (pt_val (pe_call G1 hr1 rfl D1.g D1.F.kp D1.b .nil pass0 (pa_cons (pv 1) (pa_cons (pv 2) (pa_cons (pv 3) pa_nil)))))) (pss_one (ps_ret (pe_lst pa_nil))) pss_nil)
      (pss_cons (ps_setLc (i := 4) (own := [("number", 5)]) (g := gName 5) (tt := tB (tCall (spFits c) [] E0 (tCons (tOp (rIxL K) (tVar 0) (tOp (rI0 fun i j => .int (i - j)) (tVar 5) (tC (.int 1)))) (tCons (tVar 1) (tCons (tVar 2) tNil))))) (te := tVar 5) rfl scTaking.nd rfl rfl (sw_true rfl rfl rfl (by decide +kernel)) (pi_list (pe_fld (pv 1) rfl)) (blkOk_by (N := ["stages", "run", "event", "limit", "some", "number"]) (sc := defScope sTaking) (by decide +kernel)) (fun _ _ _ _ _ => pg_name (i := 5) scTaking.nd rfl (Or.inl rfl)) (fun _ _ _ _ _ => pts_one (pt_val (pe_call G2 hr2 rfl D2.g D2.F.kp D2.b .nil pass0 (pa_cons (pe_ix ix_list (pv 0) (pe_op op_sub (pv 5) pe_int) (fun _ _ => rfl)) (pa_cons (pv 1) (pa_cons (pv 2) pa_nil)))))) (fun _ _ _ _ _ => pv 5))
      (pss_one (ps_ret (pe_lc (own := [("number", 5)]) (g := gName 5) (tt := tYes) (te := tCall (spLonger c) [] E0 (tCons (tVar 0) (tCons (tVar 1) (tCons (tVar 5) (tCons (tVar 2) tNil))))) rfl scTaking.nd (pi_list (pv 4)) (blkOk_by (N := ["stages", "run", "event", "limit", "some", "number"]) (sc := defScope sTaking) (by decide +kernel)) (fun _ _ _ _ _ => pg_name (i := 5) scTaking.nd rfl (Or.inl rfl)) (fun _ _ _ _ _ => pts_nil) (fun _ _ _ _ _ => (pe_call G3 hr rfl D3.g D3.F.kp D3.b .nil pass0 (pa_cons (pv 0) (pa_cons (pv 1) (pa_cons (pv 5) (pa_cons (pv 2) pa_nil))))))))))), ?_⟩
    obtain ⟨G, a, ra, b, p, r, e, rfl, s0, hst, hok, hra, hlen, hsub, he, q⟩ := h
    refine ⟨_, rfl, _, rfl, _, rfl, ra, b, p, r, e, rfl, hra.same s0, he.same s0, _, rfl, ?_⟩
    cases ht : Hs10.inTime p r.path e.ev with
    | false =>
      refine iteT ⟨Nat.zero_le _, fun l nl => ?_⟩
      refine q _ G l [] ((Fr.refl s0).only nl _) nl upd_same ?_
      unfold Hs10.grown
      rw [ht]
      exact .nil
    | true =>
      have hq : Hs10.grown p e.i e.ev r = (r.open_.filter fun t => Hs10.fits (Hs10.stage p t) r.path e.ev).map fun t => Hs10.taking p r.path t e.i e.ev := by
        unfold Hs10.grown
        rw [ht]
        rfl
      rw [hq] at q
      obtain ⟨rr, y, z, k1, k2, hro, hri⟩ := hra
      have hra : RunAt c G ra r := ⟨rr, y, z, k1, k2, hro, hri⟩
      have h8 : r.open_.length ≤ 8 := by
        have h1 := hsub.length_le
        rw [List.length_range] at h1
        exact Nat.le_trans h1 hok.high
      obtain ⟨as, ha, hp⟩ := hst
      refine iteF ⟨_, rfl, T.run_open_ones (hro.same s0) ⟨rr.o, rfl, ⟨_, SqL.lst (s0 _ _ hri.op)⟩, fun D nD => ?_⟩⟩
      refine lc_pure r.open_ (fun t => I (t + 1)) (fun t => Hs10.fits (Hs10.stage p t) r.path e.ev) (fun t => I (t + 1)) nD (SqL.lst (s0 _ _ hri.op)) (small8 h8) (fun t ht2 H2 s2 Y N hY hN => ⟨rfl, ?_⟩) (fun H2 s2 eD => ?_)
      · have htl : t < p.stages.length := mem_range_of_sub hsub ht2
        obtain ⟨b0, hb0, hx0⟩ := pair_get' hp (stage_get htl)
        have hb0' : (as.map V.ref)[t]? = some (V.ref b0) := by
          rw [List.getElem?_map, hb0]
          rfl
        have et : ((t + 1 : Nat) : Int) - 1 = ((t : Nat) : Int) := by omega
        have hat : atI (as.map V.ref) (((t + 1 : Nat) : Int) - 1) = some (V.ref b0) := by
          rw [et]
          exact atI_nat hb0'
        refine ⟨_, rfl, _, rfl, _, _, rfl, rfl, a, _, _, _, rfl, rfl, SqL.lst (s2 _ _ ha), hat, _, rfl, _, rfl, b0, ra, b, _, r, e, rfl, hx0.same s2, (hok.one _ (List.mem_of_getElem? (stage_get htl))).2.2.2, (hra.same s0).same s2, (he.same s0).same s2, fun H3 s3 => ⟨_, rfl, ?_⟩⟩
        cases hk : Hs10.fits (Hs10.stage p t) r.path e.ev with
        | true => exact iteT ⟨_, rfl, hY H3 s3 hk⟩
        | false => exact iteF (hN H3 s3 hk)
      · refine ⟨_, rfl, D, rfl, ⟨_, SqL.lst eD⟩, fun D2 nD2 => ?_⟩
        have f0 : Fr H G H2 G := (Fr.refl s0).more s2
        refine lc_make (c := c) (r.open_.filter fun t => Hs10.fits (Hs10.stage p t) r.path e.ev) (fun t => I (t + 1)) (fun t => Hs10.taking p r.path t e.i e.ev) f0.sub nD2 (SqL.lst eD) (small8 (Nat.le_trans (List.length_filter_le _ _) h8)) (fun t ht2 H3 G3 fr Y N hY => ⟨rfl, ?_⟩) (fun H3 G3 bs fr n3 e3 r3 => ?_)
        · have htl : t < p.stages.length := mem_range_of_sub hsub (List.mem_filter.mp ht2).1
          have s3 : Same H H3 := s2.trans fr.all
          exact ⟨_, rfl, _, rfl, _, rfl, _, rfl, G3, a, ra, b, p, r, t, e, rfl, fr.sub, ⟨as, s3 _ _ ha, pair_mono hp fun _ _ z0 => z0.same s3⟩, hok.high, htl, hra.same fr.up, hlen, he.same fr.up, fun H4 G4 x fr4 rx => hY H4 G4 x fr4 rx⟩
        · exact q H3 G3 D2 bs (f0.trans fr) (s2.free nD2) e3 r3
end
end G

/-! ## PRd7 -/
/-! in_order. -/
namespace G
open PySem PySem.Spec PyProof.Rows L2
/-! ### the order of the program's tuples is the specification's -/
theorem lt_kless : ∀ p q : List Hs10.Taken, (!ltI (q.map pk) (p.map pk)) = kless (key p) (key q)
  | [], [] => rfl
  | [], _ :: _ => rfl
  | _ :: _, [] => rfl
  | x :: l, y :: m => by
    have ih := lt_kless l m
    show (!(if pk y = pk x then ltI (m.map pk) (l.map pk) else decide (kltI (pk y) (pk x)))) = (if (x.at_, x.stage) = (y.at_, y.stage) then kless (key l) (key m) else decide (klt (x.at_, x.stage) (y.at_, y.stage)))
    by_cases h : (x.at_, x.stage) = (y.at_, y.stage)
    · have h1 : x.at_ = y.at_ := congrArg Prod.fst h
      have h2 : x.stage = y.stage := congrArg Prod.snd h
      rw [if_pos h, if_pos (by unfold pk; rw [h1, h2]), ih]
    · have hne : ¬ pk y = pk x := fun e => by
        have e1 : (y.at_ : Int) = (x.at_ : Int) := congrArg Prod.fst e
        have e2 : ((y.stage + 1 : Nat) : Int) = ((x.stage + 1 : Nat) : Int) := congrArg Prod.snd e
        exact h (Prod.ext (by show x.at_ = y.at_; omega) (by show x.stage = y.stage; omega))
      rw [if_neg h, if_neg hne]
      have hd : x.at_ ≠ y.at_ ∨ x.stage ≠ y.stage := by
        by_cases e1 : x.at_ = y.at_
        · right
          intro e2
          exact h (Prod.ext e1 e2)
        · exact .inl e1
      rw [Bool.eq_iff_iff, Bool.not_eq_true', decide_eq_false_iff_not, decide_eq_true_eq]
      unfold kltI klt pk
      show ¬ ((y.at_ : Int) < (x.at_ : Int) ∨ (y.at_ : Int) = (x.at_ : Int) ∧ ((y.stage + 1 : Nat) : Int) < ((x.stage + 1 : Nat) : Int)) ↔ (x.at_ < y.at_ ∨ x.at_ = y.at_ ∧ x.stage < y.stage)
      omega
theorem merge_is {rs : List Hs10.Run} (h : KN rs) : rs.mergeSort Hs10.runLess = sortR rs := by
  refine sort_is h (List.mergeSort_perm _ _) ?_
  refine List.pairwise_mergeSort (fun a b z h1 h2 => ?_) (fun a b => ?_) rs
  · rw [runLess_key] at *
    exact kless_trans h1 h2
  · rw [runLess_key, runLess_key, Bool.or_eq_true]
    exact kless_total _ _
theorem key_inj {H : Hp} : ∀ {ts : List Addr} {ps qs : List (Int × Int)}, Paired (fun b (p : Int × Int) => H b = some (.tup [.int p.1, .int p.2])) ts ps → Paired (fun b (p : Int × Int) => H b = some (.tup [.int p.1, .int p.2])) ts qs → ps = qs
  | _, _, _, .nil, .nil => rfl
  | _, _, _, .cons (b := p) r t, .cons (b := p') r' t' => by
    have e := r.symm.trans r'
    injection e with e
    injection e with e
    injection e with e1 e2
    injection e2 with e2 _
    injection e1 with e1
    injection e2 with e2
    rw [key_inj t t', show p = p' from Prod.ext e1 e2]
theorem keyAt_inj {H : Hp} {t : Addr} {ps qs : List (Int × Int)} (h : KeyAt H t ps) (h' : KeyAt H t qs) : ps = qs := by
  obtain ⟨ts, e, p⟩ := h
  obtain ⟨ts', e', p'⟩ := h'
  rw [e] at e'
  injection e' with e'
  injection e' with e'
  have : ts = ts' := List.map_inj_right (f := V.ref) (fun a b z => by injection z) |>.mp e'
  subst this
  exact key_inj p p'
/-- the key of the run at an address -/
noncomputable def keyOf (c : Cs) (H : Hp) (a : Addr) : List (Int × Int) := open Classical in if h : ∃ ps, ∃ q, RunO c H a q ∧ KeyAt H q.t ps then h.choose else []
theorem keyOf_is {c : Cs} {H : Hp} {a : Addr} {r : Hs10.Run} (h : RunAt c H a r) : keyOf c H a = r.path.map pk := by
  obtain ⟨q, y, z, k1, k2, hq, hi⟩ := h
  have hx : ∃ ps, ∃ q, RunO c H a q ∧ KeyAt H q.t ps := ⟨_, q, hq, hi.key⟩
  unfold keyOf
  rw [dif_pos hx]
  obtain ⟨q', hq', hk'⟩ := hx.choose_spec
  obtain ⟨dx, e⟩ := hq
  obtain ⟨dx', e'⟩ := hq'
  rw [e] at e'
  injection e' with e'
  injection e' with _ _ e'
  have et : q.t = q'.t := by
    have e2 := congrArg (fun l => l.head?) e'
    injection e2 with e2
    injection e2 with _ e2
    injection e2
  rw [← et] at hk'
  exact keyAt_inj hk' hi.key
theorem paired_zip {β : Type} {F : Addr → β → Prop} : ∀ (zs : List (Addr × β)), (∀ p ∈ zs, F p.1 p.2) → Paired F (zs.map (·.1)) (zs.map (·.2))
  | [], _ => .nil
  | _ :: zs, h => .cons (h _ (List.mem_cons_self ..)) (paired_zip zs fun p hp => h p (List.mem_cons_of_mem _ hp))
theorem zip_fst {β : Type} {F : Addr → β → Prop} : ∀ {as : List Addr} {xs : List β}, Paired F as xs → (as.zip xs).map (·.1) = as
  | _, _, .nil => rfl
  | _, _, .cons _ t => congrArg (List.cons _) (zip_fst t)
theorem zip_snd' {β : Type} {F : Addr → β → Prop} : ∀ {as : List Addr} {xs : List β}, Paired F as xs → (as.zip xs).map (·.2) = xs
  | _, _, .nil => rfl
  | _, _, .cons _ t => congrArg (List.cons _) (zip_snd' t)
/-- the sorted addresses stand for the sorted runs -/
theorem sort_pairs {c : Cs} {H : Hp} {as : List Addr} {rs : List Hs10.Run} (h : Runs c H as rs) (kn : KN rs) {F : Addr → Hs10.Run → Prop} (hF : Paired F as rs) :
    Paired F (as.mergeSort fun a b => !ltI (keyOf c H b) (keyOf c H a)) (sortR rs) := by
  have e1 : ((as.zip rs).mergeSort fun p q => Hs10.runLess p.2 q.2).map (·.1) = as.mergeSort fun a b => !ltI (keyOf c H b) (keyOf c H a) := by
    rw [PySem.W.sort_maps (s := fun a b => !ltI (keyOf c H b) (keyOf c H a)) (fun p : Addr × Hs10.Run => p.1) fun p hp q hq => by
      show Hs10.runLess p.2 q.2 = !ltI (keyOf c H q.1) (keyOf c H p.1)
      rw [keyOf_is (zip_has h p hp), keyOf_is (zip_has h q hq), runLess_key]
      exact (lt_kless _ _).symm, zip_fst h]
  have e2 : ((as.zip rs).mergeSort fun p q => Hs10.runLess p.2 q.2).map (·.2) = sortR rs := by
    rw [PySem.W.sort_maps (s := Hs10.runLess) (fun p : Addr × Hs10.Run => p.2) fun p hp q hq => rfl, zip_snd' h, merge_is kn]
  rw [← e1, ← e2]
  exact paired_zip _ fun p hp => zip_has hF p ((List.mergeSort_perm _ _).mem_iff.mp hp)
/-! ### the tables -/
def lamQ : Str := ("in_order" : Str) ++ ".<locals>." ++ "<lambda>"
abbrev Tb (H : Hp) (PT : Addr) : Prop := LamX.TabS H PT lamQ
section
variable {P : Program} {w : World} {K : PySem.W.Frag} {mg : Str → Option Value} {base : Heap} {c : Cs}
def spOrder (c : Cs) (PT : Addr) : Sp := fun vs H Q _ => ∃ (a : Addr) (as : List Addr) (rs : List Hs10.Run), vs = [.ref a] ∧ H a = some (.lst (as.map V.ref)) ∧ Runs c H as rs ∧ KN rs ∧ Tb H PT ∧
  ∀ H' l bs, (∀ b o, H b = some o → b ≠ PT → H' b = some o) → Tb H' PT → H l = none → H' l = some (.lst (bs.map V.ref)) → (∀ F : Addr → Hs10.Run → Prop, Paired F as rs → Paired F bs (sortR rs)) → Q (.ref l) H'
abbrev sOrder : Stmt := top 28
theorem scOrder : FnScope ["runs"] ["runs"] (defScope sOrder) := ⟨rfl, rfl, rfl, by decide +kernel, rfl, by decide +kernel, by decide +kernel⟩
theorem ok_order {f cT PT : Addr} {oc kV doc pm ct : Value} {od an : Option Addr} {osl : Array (Option Value)} (lk : K.lookup f = some ⟨oc, od, .func (PySem.W.fnOf "in_order" "in_order" (defArgs sOrder) (defBody sOrder) (defScope sOrder) .none kV doc pm an (.ref cT) ct), osl⟩)
    (hcd : PySem.W.codeIn K (.ref cT) "in_order" = true) (T : Txt K c) (TB : LamX.TabB base mg cT PT) (mS : mg "sorted" = none) : FnOk P w K mg base CX0 3 f (PySem.W.fnOf "in_order" "in_order" (defArgs sOrder) (defBody sOrder) (defScope sOrder) .none kV doc pm an (.ref cT) ct) ["runs"] (spOrder c PT) := by
  refine fn_of lk hcd scOrder ?_ ?_
  · rintro vs H Q E ⟨a, as, rs, rfl, _⟩
    rfl
  · intro A outer s H vs Q E hr h
    have tm : PSs (cxOf CX0 P w K mg base ["runs"] "in_order" (defScope sOrder) f (.ref cT) A outer s H E).nox (defBody sOrder) _ :=
      pss_one (ps_ret (pe_sortL (q0 := lamQ) (x := "run") (g := "taken") rfl mS (pa_cons (pv 0) pa_nil) TB rfl rfl hr rfl rfl rfl rfl (by decide) (by decide) rfl (by decide) (fun _ _ _ _ _ _ => rfl) (fun _ => rfl)))
    refine ⟨_, tm.nox, ?_⟩
    obtain ⟨a, as, rs, rfl, ha, hrs, kn, hT, q⟩ := h
    refine ⟨_, rfl, a, as, keyOf c H, rfl, SqL.lst ha, fun b hb => ?_, hT, fun H2 p eN T2 np => ?_⟩
    · obtain ⟨r, _, hr'⟩ := pair_mem hrs hb
      have ek := keyOf_is hr'
      obtain ⟨rr, y, z, k1, k2, ⟨dx, hro⟩, hri⟩ := hr'
      refine ⟨?_, c.cR, dx, _, rr.t, hro, T.clRun, T.nRun_taken, fsRun_taken _, ?_⟩
      · rw [ek]
        intro z0
        have h1 := hri.hd
        rw [List.map_eq_nil_iff.mp z0] at h1
        cases h1
      · rw [ek]
        exact hri.key
    · have hl : H p = none := by
        cases e : H p with
        | none => rfl
        | some u =>
          by_cases hp : p = PT
          · obtain ⟨tb, e2, _⟩ := T2
            rw [← hp, np] at e2
            cases e2
          · rw [eN p u e hp] at np
            cases np
      exact q _ p (as.mergeSort fun a b => !ltI (keyOf c H b) (keyOf c H a)) (fun b o z hb => same_new (Same.refl H2) np _ _ _ (eN b o z hb)) (T2.ext (same_new (Same.refl H2) np _)) hl upd_same fun F hF => sort_pairs hrs kn hF
end
end G

/-! ## PRd8 -/
/-! Skip's methods; run_told. -/
namespace G
open PySem PySem.Spec PyProof.Rows L2
def bk (l : List Nat) : List (Key × V) := l.map fun (n : Nat) => (Sum.inl (n : Int), V.bl true)
theorem bk_any (n : Nat) : ∀ l : List Nat, ((bk l).any fun kv => decide (kv.1 = (Sum.inl (n : Int) : Key))) = l.contains n
  | [] => rfl
  | a :: r => by
    show (decide ((Sum.inl (a : Int) : Key) = Sum.inl (n : Int)) || (bk r).any fun kv => decide (kv.1 = (Sum.inl (n : Int) : Key))) = (n == a || r.contains n)
    rw [bk_any n r]
    congr 1
    rw [Bool.eq_iff_iff, decide_eq_true_eq, beq_iff_eq]
    constructor
    · intro h
      injection h with h
      omega
    · intro h
      rw [h]
theorem bk_has (l : List Nat) (n : Nat) : (valV (bk l) (Sum.inl (n : Int))).isSome = l.contains n := by
  rw [← valV_any, bk_any]
theorem bk_same (n : Nat) : ∀ l : List Nat, (bk l).map (fun kv => if kv.1 = (Sum.inl (n : Int) : Key) then (kv.1, V.bl true) else kv) = bk l
  | [] => rfl
  | a :: r => by
    show (if (Sum.inl (a : Int) : Key) = Sum.inl (n : Int) then ((Sum.inl (a : Int) : Key), V.bl true) else (Sum.inl (a : Int), V.bl true)) :: _ = _ :: _
    have ih : List.map (fun kv => if kv.1 = (Sum.inl (n : Int) : Key) then (kv.1, V.bl true) else kv) (r.map fun (n : Nat) => ((Sum.inl (n : Int) : Key), V.bl true)) = r.map fun (n : Nat) => ((Sum.inl (n : Int) : Key), V.bl true) := bk_same n r
    rw [ih]
    split <;> rfl
theorem bk_put (l : List Nat) (n : Nat) : putK (bk l) (Sum.inl (n : Int)) (V.bl true) = bk (if l.contains n = true then l else l ++ [n]) := by
  unfold putK
  rw [bk_any]
  split
  · exact bk_same n l
  · unfold bk
    rw [List.map_append]
    rfl
theorem first_of {r : Hs10.Run} {y : Hs10.Taken} (h : r.path.head? = some y) : Hs10.first r.path = y.at_ := by
  unfold Hs10.first
  rw [h]
theorem last_of {r : Hs10.Run} {z : Hs10.Taken} (h : r.path.getLast? = some z) : Hs10.last r.path = z.at_ := by
  unfold Hs10.last
  rw [h]
section
variable {P : Program} {w : World} {K : PySem.W.Frag} {mg : Str → Option Value} {base : Heap} {c : Cs}
/-! ### is_shut -/
def spShut (c : Cs) : Sp := fun vs H Q _ => ∃ (a ra b : Addr) (k : Sk) (r : Hs10.Run), vs = [.ref a, .ref ra] ∧ SkipO c H a ⟨k.way, k.pivot, k.shut, b⟩ ∧ H b = some (.dK (bk k.begins)) ∧ RunAt c H ra r ∧ Q (.bl (k.isShut r.path)) H
abbrev sShut : Stmt := inClass (top 34) 2
theorem scShut : FnScope ["self", "run"] ["self", "run"] (defScope sShut) := ⟨rfl, rfl, rfl, by decide +kernel, rfl, by decide +kernel, by decide +kernel⟩
theorem ok_shut {f f1 : Addr} {fd fd1 : FuncData} (F : Fun K "is_shut" "Skip.is_shut" sShut f fd) (T : Txt K c) (M1 : Mt K c.cR "begin" "Run.begin" sBegin ["self"] f1 fd1) (G1 : FnOk P w K mg base CX0 1 f1 fd1 ["self"] (spBegin c)) : FnOk P w K mg base CX0 2 f fd ["self", "run"] (spShut c) := by
  refine F.ok scShut ?_ ?_
  · rintro vs H Q E ⟨a, ra, b, k, r, rfl, _⟩
    rfl
  · intro cdv A outer s H vs Q E hr h
    refine ⟨_, pss_one (ps_ret (pe_or (pe_cmpR op_le (pe_meth0 (pv 1) T.clRun M1.m G1 hr M1.b .nil pass0) (pe_fld (pv 0) rfl) (nomark _)) (pe_one (pe_cmp (pc_din (hu_of hr) (pe_meth0 (pv 1) T.clRun M1.m G1 hr M1.b .nil pass0) (pe_fld (pv 0) rfl)) rfl)))), ?_⟩
    obtain ⟨a, ra, b, k, r, rfl, hk, hb, ⟨rr, y, z, k1, k2, ⟨dx, hro⟩, hri⟩, q⟩ := h
    unfold Sk.isShut at q
    rw [first_of hri.hd] at q
    refine ⟨_, rfl, ra, dx, _, rfl, hro, fsRun_no_begin _, ra, rr, _, rfl, ⟨dx, hro⟩, hri.first, _, rfl, T.skip_shut_to hk ⟨_, _, rfl, rfl, _, rfl, ifd (dLe y.at_ k.shut) (fun h1 => ?_) (fun h1 => ?_)⟩⟩
    · rw [decide_eq_true h1, Bool.true_or] at q
      exact q
    · rw [decide_eq_false h1, Bool.false_or, ← bk_has] at q
      exact ⟨_, rfl, ra, dx, _, rfl, hro, fsRun_no_begin _, ra, rr, _, rfl, ⟨dx, hro⟩, hri.first, _, rfl, T.skip_shut_begins hk ⟨b, _, rfl, DGet.k (k := Sum.inl (y.at_ : Int)) hb, q⟩⟩
/-! ### pivot_event -/
def spPivot (c : Cs) : Sp := fun vs H Q _ => ∃ (a ra b : Addr) (k : Sk) (r : Hs10.Run), vs = [.ref a, .ref ra] ∧ SkipO c H a ⟨k.way, k.pivot, k.shut, b⟩ ∧ RunAt c H ra r ∧ Q (I (pivotEvent k.pivot r.path)) H
abbrev sPivot : Stmt := inClass (top 34) 3
theorem scPivot : FnScope ["self", "match", "event", "stage"] ["self", "match"] (defScope sPivot) := ⟨rfl, rfl, rfl, by decide +kernel, rfl, by decide +kernel, by decide +kernel⟩
theorem path_item {H : Hp} {ts : List Addr} {path : List Hs10.Taken} {i : Nat} {v : V} (h : Paired (fun b (p : Int × Int) => H b = some (.tup [.int p.1, .int p.2])) ts (path.map pk)) (hv : (ts.map V.ref)[i]? = some v) : ∃ b y, v = V.ref b ∧ path[i]? = some y ∧ H b = some (.tup [I y.at_, I (y.stage + 1)]) := by
  obtain ⟨b, hb, rfl⟩ := get_map hv
  obtain ⟨p, hp, e⟩ := pair_get h hb
  obtain ⟨y, hy, rfl⟩ := get_map hp
  exact ⟨b, y, rfl, hy, e⟩
theorem drop_next {α : Type} {l : List α} {i : Nat} {x : α} (h : l[i]? = some x) : l.drop i = x :: l.drop (i + 1) := by
  obtain ⟨hi, e⟩ := List.getElem?_eq_some_iff.mp h
  rw [List.drop_eq_getElem_cons hi, e]
theorem ok_pivot {f : Addr} {fd : FuncData} (F : Fun K "pivot_event" "Skip.pivot_event" sPivot f fd) (T : Txt K c) : FnOk P w K mg base CX0 1 f fd ["self", "match"] (spPivot c) := by
  refine F.ok scPivot ?_ ?_
  · rintro vs H Q E ⟨a, ra, b, k, r, rfl, _⟩
    rfl
  · intro cdv A outer s H vs Q E hr h
    refine ⟨_, (pss_cons (ps_for PassesOwn.never rfl (pi_tup (pe_fld (pv 1) rfl)) (pg_tup rfl (pgs_cons (pg_name (i := 2) scPivot.nd rfl (Or.inl rfl)) (pgs_cons (pg_name (i := 3) scPivot.nd rfl (Or.inl rfl)) pgs_nil))) (pss_one (ps_if (pt_cmpR op_eq (pv 3) (pe_fld (pv 0) rfl) (nomark _)) (pss_one (ps_ret (pv 2))) pss_nil)))
      (pss_one (ps_ret pe_int))), ?_⟩
    obtain ⟨a, ra, b, k, r, rfl, hk, ⟨rr, y, z, k1, k2, hro, hri⟩, q⟩ := h
    obtain ⟨ts, ets, hts⟩ := hri.key
    refine ⟨_, rfl, T.run_taken hro ⟨rr.t, rfl, ⟨_, .inl (.inl ets)⟩, ?_⟩⟩
    refine for_tup (xs := ts.map V.ref) (fun i σ H1 => H1 = H ∧ ∃ v2 v3, σ = [some (.ref a), some (.ref ra), v2, v3] ∧ pivotEvent k.pivot r.path = pivotEvent k.pivot (r.path.drop i)) ⟨rfl, none, none, rfl, rfl⟩ (fun i σ H1 _ ⟨e, _⟩ => by rw [e]; exact .inl (.inl ets)) ?_ ?_
    · rintro i x σ H1 hx ⟨rfl, v2, v3, rfl, he⟩
      obtain ⟨b0, y0, rfl, hy0, e0⟩ := path_item hts hx
      rw [drop_next hy0] at he
      refine ⟨b0, _, rfl, .inl (.inl e0), rfl, _, _, rfl, _, _, rfl, rfl, ?_⟩
      refine ⟨_, rfl, _, rfl, T.skip_pivot hk ⟨rfl, _, rfl, ifd (dE (y0.stage + 1) k.pivot) (fun h1 => ?_) (fun h1 => ?_)⟩⟩
      · have e1 : pivotEvent k.pivot (y0 :: r.path.drop (i + 1)) = y0.at_ := if_pos h1
        rw [he, e1] at q
        exact ⟨_, rfl, q⟩
      · have e1 : pivotEvent k.pivot (y0 :: r.path.drop (i + 1)) = pivotEvent k.pivot (r.path.drop (i + 1)) := if_neg h1
        exact ⟨rfl, _, _, rfl, he.trans e1⟩
    · rintro σ H1 ⟨rfl, v2, v3, rfl, he⟩
      have e1 : r.path.drop (ts.map V.ref).length = [] := by
        rw [List.length_map, pair_len hts, List.length_map]
        exact List.drop_length
      rw [he, e1] at q
      exact q
/-! ### tell -/
/-- the heap with the skip at a, its dict at b, as told by k -/
def skH (c : Cs) (H : Hp) (a dx b : Addr) (k : Sk) : Hp := upd (upd H a (.ins c.cK dx (fsSkip ⟨k.way, k.pivot, k.shut, b⟩))) b (.dK (bk k.begins))
theorem skH_id {c : Cs} {H : Hp} {a dx b : Addr} {k : Sk} (h1 : H a = some (.ins c.cK dx (fsSkip ⟨k.way, k.pivot, k.shut, b⟩))) (h2 : H b = some (.dK (bk k.begins))) : skH c H a dx b k = H := by
  unfold skH
  rw [upd_id h1, upd_id h2]
def spTell (c : Cs) : Sp := fun vs H Q _ => ∃ (a dx ra b : Addr) (k : Sk) (r : Hs10.Run), vs = [.ref a, .ref ra] ∧ H a = some (.ins c.cK dx (fsSkip ⟨k.way, k.pivot, k.shut, b⟩)) ∧ H b = some (.dK (bk k.begins)) ∧ k.begins.length ≤ 1000000 ∧ RunAt c H ra r ∧ Q .non (skH c H a dx b (k.tell r.path))
abbrev sTell : Stmt := inClass (top 34) 4
theorem scTell : FnScope ["self", "match"] ["self", "match"] (defScope sTell) := ⟨rfl, rfl, rfl, by decide +kernel, rfl, by decide +kernel, by decide +kernel⟩
theorem put_shut (s : SkipR) (n : Nat) : putF "shut_to" (I n) (fsSkip s) = fsSkip { s with shut := n } := ((pf_go (by decide +kernel)).trans (congrArg _ ((pf_go (by decide +kernel)).trans (congrArg _ pf_hit))))
theorem max_nat (a b : Nat) : (if (b : Int) > (a : Int) then (b : Int) else (a : Int)) = ((max a b : Nat) : Int) := by
  by_cases h : (b : Int) > (a : Int)
  · rw [if_pos h]
    omega
  · rw [if_neg h]
    omega
theorem max_pred (a b : Nat) : (if (b : Int) - 1 > (a : Int) then (b : Int) - 1 else (a : Int)) = ((max a (b - 1) : Nat) : Int) := by
  by_cases h : (b : Int) - 1 > (a : Int)
  · rw [if_pos h]
    omega
  · rw [if_neg h]
    omega
theorem ok_tell {f f1 f2 : Addr} {fd fd1 fd2 : FuncData} (F : Fun K "tell" "Skip.tell" sTell f fd) (T : Txt K c) (M1 : Mt K c.cR "begin" "Run.begin" sBegin ["self"] f1 fd1) (G1 : FnOk P w K mg base CX0 1 f1 fd1 ["self"] (spBegin c)) (M2 : Mt K c.cK "pivot_event" "Skip.pivot_event" sPivot ["self", "match"] f2 fd2) (G2 : FnOk P w K mg base CX0 1 f2 fd2 ["self", "match"] (spPivot c))
    (m1 : CI mg "BEHIND_LAST" 1) (m2 : CI mg "SAME_BEGIN" 2) (m3 : CI mg "BEHIND_PIVOT" 3) (mMax : mg "max" = none) : FnOk P w K mg base CX0 2 f fd ["self", "match"] (spTell c) := by
  obtain ⟨t1, m1⟩ := m1
  obtain ⟨t2, m2⟩ := m2
  obtain ⟨t3, m3⟩ := m3
  refine F.ok scTell ?_ ?_
  · rintro vs H Q E ⟨a, dx, ra, b, k, r, rfl, _⟩
    rfl
  · intro cdv A outer s H vs Q E hr h
    refine ⟨_, (pss_cons (ps_if (pt_cmpR op_eq (pe_fld (pv 0) rfl) (pe_glob (v := .int 1) rfl m1 ⟨_, rfl⟩) (nomark _)) (pss_one (ps_fld (pv 0) (pe_callB (call_max2 rfl) (by rfl) mMax (by decide +kernel) (pa_cons (pe_fld (pv 0) rfl) (pa_cons (pe_fld (pe_fld (pv 1) rfl) rfl) pa_nil))) rfl)) pss_nil)
      (pss_cons (ps_if (pt_cmpR op_eq (pe_fld (pv 0) rfl) (pe_glob (v := .int 2) rfl m2 ⟨_, rfl⟩) (nomark _)) (pss_one (ps_dput (hu_of hr) (pe_fld (pv 0) rfl) (pe_meth0 (pv 1) T.clRun M1.m G1 hr M1.b .nil pass0) pe_bl rfl)) pss_nil)
      (pss_one (ps_if (pt_cmpR op_eq (pe_fld (pv 0) rfl) (pe_glob (v := .int 3) rfl m3 ⟨_, rfl⟩) (nomark _)) (pss_one (ps_fld (pv 0) (pe_callB (call_max2 rfl) (by rfl) mMax (by decide +kernel) (pa_cons (pe_fld (pv 0) rfl) (pa_cons (pe_op op_sub (pe_meth (pv 0) T.clSkip M2.m G2 hr M2.b .nil pass0 (pa_cons (pv 1) pa_nil)) pe_int) pa_nil))) rfl)) pss_nil)))), ?_⟩
    obtain ⟨a, dx, ra, b, k, r, rfl, ha, hb, hbl, hra, q⟩ := h
    have hk : SkipO c H a ⟨k.way, k.pivot, k.shut, b⟩ := ⟨dx, ha⟩
    obtain ⟨rr, y, z, k1, k2, ⟨rdx, hro⟩, hri⟩ := hra
    unfold Sk.tell at q
    refine ⟨_, rfl, T.skip_way hk ⟨rfl, _, rfl, ifd (dE k.way 1) (fun h1 => ?_) (fun h1 => ?_)⟩⟩
    · rw [if_pos h1, last_of hri.lt] at q
      refine ⟨_, rfl, T.skip_shut_to hk ⟨_, rfl, T.run_last ⟨rdx, hro⟩ (T.event_number hri.last ⟨_, _, rfl, _, rfl, a, c.cK, dx, _, rfl, ha, T.clSkip, T.nSkip_shut_to, (by show 4 < 1000; decide), ?_⟩)⟩⟩
      rw [max_nat]
      rw [show putF "shut_to" (V.int ((max k.shut z.at_ : Nat) : Int)) (fsSkip ⟨k.way, k.pivot, k.shut, b⟩) = fsSkip ⟨k.way, k.pivot, max k.shut z.at_, b⟩ from put_shut _ _]
      have hk2 : SkipO c (upd H a (.ins c.cK dx (fsSkip ⟨k.way, k.pivot, max k.shut z.at_, b⟩))) a ⟨k.way, k.pivot, max k.shut z.at_, b⟩ := ⟨dx, upd_same⟩
      refine ⟨_, rfl, T.skip_way hk2 ⟨rfl, _, rfl, ifd (dE k.way 2) (fun h2 => absurd h2 (by omega)) (fun h2 => ?_)⟩⟩
      refine ⟨_, rfl, T.skip_way hk2 ⟨rfl, _, rfl, ifd (dE k.way 3) (fun h3 => absurd h3 (by omega)) (fun h3 => ?_)⟩⟩
      have ne : b ≠ a := ne_of hb ha (fun z0 => by cases z0)
      unfold skH at q
      rw [show upd (upd H a (.ins c.cK dx (fsSkip ⟨k.way, k.pivot, max k.shut z.at_, b⟩))) b (.dK (bk k.begins)) = upd H a (.ins c.cK dx (fsSkip ⟨k.way, k.pivot, max k.shut z.at_, b⟩)) from upd_id (by rw [upd_ne ne]; exact hb)] at q
      exact q
    rw [if_neg h1] at q
    refine ⟨_, rfl, T.skip_way hk ⟨rfl, _, rfl, ifd (dE k.way 2) (fun h2 => ?_) (fun h2 => ?_)⟩⟩
    · rw [if_pos h2, first_of hri.hd] at q
      refine ⟨_, rfl, T.skip_shut_begins hk ⟨_, rfl, ra, rdx, _, rfl, hro, fsRun_no_begin _, ra, rr, _, rfl, ⟨rdx, hro⟩, hri.first, b, _, rfl, DPut.k (k := Sum.inl (y.at_ : Int)) hb ?_, ?_⟩⟩
      · unfold bk
        rw [List.length_map]
        have : sizeLine = 16777216 := sizeLine_eq
        omega
      have ne : a ≠ b := ne_of ha hb (fun z0 => by cases z0)
      have hk2 : SkipO c (upd H b (.dK (putK (bk k.begins) (Sum.inl (y.at_ : Int)) (V.bl true)))) a ⟨k.way, k.pivot, k.shut, b⟩ := ⟨dx, by rw [upd_ne ne]; exact ha⟩
      refine ⟨_, rfl, T.skip_way hk2 ⟨rfl, _, rfl, ifd (dE k.way 3) (fun h3 => absurd h3 (by omega)) (fun h3 => ?_)⟩⟩
      unfold skH at q
      rw [show upd H a (.ins c.cK dx (fsSkip ⟨k.way, k.pivot, k.shut, b⟩)) = H from upd_id ha, ← bk_put] at q
      exact q
    rw [if_neg h2] at q
    refine ⟨_, rfl, T.skip_way hk ⟨rfl, _, rfl, ifd (dE k.way 3) (fun h3 => ?_) (fun h3 => ?_)⟩⟩
    · rw [if_pos h3] at q
      refine ⟨_, rfl, T.skip_shut_to hk ⟨_, rfl, a, dx, _, rfl, ha, fsSkip_no_pivot_event _, _, rfl, a, ra, b, k, r, rfl, hk, ⟨rr, y, z, k1, k2, ⟨rdx, hro⟩, hri⟩, _, _, rfl, rfl, _, _, rfl, _, rfl, a, c.cK, dx, _, rfl, ha, T.clSkip, T.nSkip_shut_to, (by show 4 < 1000; decide), ?_⟩⟩
      rw [max_pred]
      rw [show putF "shut_to" (V.int ((max k.shut (pivotEvent k.pivot r.path - 1) : Nat) : Int)) (fsSkip ⟨k.way, k.pivot, k.shut, b⟩) = fsSkip ⟨k.way, k.pivot, max k.shut (pivotEvent k.pivot r.path - 1), b⟩ from put_shut _ _]
      have ne : b ≠ a := ne_of hb ha (fun z0 => by cases z0)
      unfold skH at q
      rw [show upd (upd H a (.ins c.cK dx (fsSkip ⟨k.way, k.pivot, max k.shut (pivotEvent k.pivot r.path - 1), b⟩))) b (.dK (bk k.begins)) = upd H a (.ins c.cK dx (fsSkip ⟨k.way, k.pivot, max k.shut (pivotEvent k.pivot r.path - 1), b⟩)) from upd_id (by rw [upd_ne ne]; exact hb)] at q
      exact q
    · rw [if_neg h3, skH_id ha hb] at q
      exact q
/-! ### copied -/
def spCopied (c : Cs) : Sp := fun vs H Q _ => ∃ (a b : Addr) (k : Sk), vs = [.ref a] ∧ SkipO c H a ⟨k.way, k.pivot, k.shut, b⟩ ∧ H b = some (.dK (bk k.begins)) ∧
  ∀ H' x dx b', Same H H' → H x = none → H b' = none → H' x = some (.ins c.cK dx (fsSkip ⟨k.way, k.pivot, k.shut, b'⟩)) → H' b' = some (.dK (bk k.begins)) → Q (.ref x) H'
abbrev sCopied : Stmt := inClass (top 34) 1
theorem scCopied : FnScope ["self", "found"] ["self"] (defScope sCopied) := ⟨rfl, rfl, rfl, by decide +kernel, rfl, by decide +kernel, by decide +kernel⟩
theorem put_begins (s : SkipR) (d : Addr) : putF "shut_begins" (.ref d) (fsSkip s) = fsSkip { s with b := d } := ((pf_go (by decide +kernel)).trans (congrArg _ ((pf_go (by decide +kernel)).trans (congrArg _ ((pf_go (by decide +kernel)).trans (congrArg _ pf_hit))))))
theorem ok_copied {f fI : Addr} {fd fdI : FuncData} (F : Fun K "copied" "Skip.copied" sCopied f fd) (T : Txt K c) (MK : Mk K c.cK fI) (gK : mg "Skip" = some (.ref c.cK)) (bK : Binds K fdI ["self", "way", "pivot"] []) (GK : FnOk P w K mg base CX0 1 fI fdI ["self", "way", "pivot"] (spSkipI c)) (mD : mg "dict" = none) :
    FnOk P w K mg base CX0 3 f fd ["self"] (spCopied c) := by
  refine F.ok scCopied ?_ ?_
  · rintro vs H Q E ⟨a, b, k, rfl, _⟩
    rfl
  · intro cdv A outer s H vs Q E hr h
    refine ⟨_, (pss_cons (ps_set (i := 1) scCopied.nd rfl (Or.inl rfl) (pe_make MK GK hr rfl gK bK .nil pass0 (pa_cons (pe_fld (pv 0) rfl) (pa_cons (pe_fld (pv 0) rfl) pa_nil))))
      (pss_cons (ps_fld (pv 1) (pe_fld (pv 0) rfl) rfl)
      (pss_cons (ps_fld (pv 1) (pe_callTy cr_dictD (by rfl) mD (by decide +kernel) (pa_cons (pe_fld (pv 0) rfl) pa_nil)) rfl)
      (pss_one (ps_ret (pv 1)))))), ?_⟩
    obtain ⟨a, b, k, rfl, hk, hb, q⟩ := h
    refine ⟨_, rfl, T.skip_way hk ⟨_, rfl, T.skip_pivot hk ?_⟩⟩
    intro x dx nx ndx ne
    refine ⟨x, dx, k.way, k.pivot, rfl, upd_same, fun d nd0 => ⟨rfl, ?_⟩⟩
    rw [upd_upd]
    -- x is new, d is its first dict
    have nd1 : upd (upd H dx (.own x)) x (.ins c.cK dx []) d = none := nd0
    have ndx2 : d ≠ x := fun z => by
      rw [z, upd_same] at nd1
      cases nd1
    have nd2 : upd H dx (.own x) d = none := by
      rw [upd_ne ndx2] at nd1
      exact nd1
    have nd3 : d ≠ dx := fun z => by
      rw [z, upd_same] at nd2
      cases nd2
    have nd4 : H d = none := by
      rw [upd_ne nd3] at nd2
      exact nd2
    have sA : Same H (upd (upd (upd H dx (.own x)) x (.ins c.cK dx (fsSkip ⟨k.way, k.pivot, 0, d⟩))) d (.dK [])) :=
      same_new (same_new (same_new (Same.refl H) ndx _) nx _) nd4 _
    refine ⟨_, rfl, T.skip_shut_to (hk.same sA) ⟨_, rfl, x, c.cK, dx, _, rfl, by rw [upd_ne (Ne.symm ndx2)]; exact upd_same, T.clSkip, T.nSkip_shut_to, (by show 4 < 1000; decide), ?_⟩⟩
    rw [show putF "shut_to" (V.int (k.shut : Int)) (fsSkip ⟨k.way, k.pivot, 0, d⟩) = fsSkip ⟨k.way, k.pivot, k.shut, d⟩ from put_shut _ _]
    have sB : Same H (upd (upd (upd (upd H dx (.own x)) x (.ins c.cK dx (fsSkip ⟨k.way, k.pivot, 0, d⟩))) d (.dK [])) x (.ins c.cK dx (fsSkip ⟨k.way, k.pivot, k.shut, d⟩))) := same_new sA nx _
    refine ⟨_, rfl, T.skip_shut_begins (hk.same sB) ⟨b, _, rfl, sB _ _ hb, fun b' nb' => ⟨_, rfl, x, c.cK, dx, fsSkip ⟨k.way, k.pivot, k.shut, d⟩, rfl, ?_, T.clSkip, T.nSkip_shut_begins, (by show 4 < 1000; decide), ?_⟩⟩⟩
    · rw [upd_ne (ne_of_none upd_same nb')]
      exact upd_same
    rw [show putF "shut_begins" (V.ref b') (fsSkip ⟨k.way, k.pivot, k.shut, d⟩) = fsSkip ⟨k.way, k.pivot, k.shut, b'⟩ from put_begins _ _]
    have nxb : b' ≠ x := Ne.symm (ne_of_none upd_same nb')
    exact ⟨_, rfl, q _ x dx b' (same_new (same_new sB (sB.free nb') _) nx _) nx (sB.free nb') upd_same (by rw [upd_ne nxb]; exact upd_same)⟩
/-! ### run_told -/
def spTold (c : Cs) : Sp := fun vs H Q _ => ∃ (ra : Addr) (r : Hs10.Run), vs = [.ref ra] ∧ RunAt c H ra r ∧ r.path.length ≤ 10000 ∧ ∀ H' l, Same H H' → H l = none → H' l = some (.lst ((Hs10.pathTold r.path).map I)) → Q (.ref l) H'
abbrev sTold : Stmt := top 56
theorem scTold : FnScope ["run", "found", "event", "stage"] ["run"] (defScope sTold) := ⟨rfl, rfl, rfl, by decide +kernel, rfl, by decide +kernel, by decide +kernel⟩
def toldP (path : List Hs10.Taken) (n : Nat) : List Nat := n :: path.flatMap fun y => [y.stage + 1, y.at_]
theorem toldP_len (n : Nat) : ∀ path : List Hs10.Taken, (toldP path n).length = 1 + 2 * path.length
  | [] => rfl
  | y :: r => by
    have ih := toldP_len n r
    show (n :: ([y.stage + 1, y.at_] ++ r.flatMap fun y => [y.stage + 1, y.at_])).length = _
    have e : (toldP r n).length = (r.flatMap fun y => [y.stage + 1, y.at_]).length + 1 := rfl
    rw [List.length_cons, List.length_append, List.length_cons]
    show 2 + (r.flatMap fun y => [y.stage + 1, y.at_]).length + 1 = 1 + 2 * (r.length + 1)
    omega
theorem toldP_snoc (path : List Hs10.Taken) (y : Hs10.Taken) (n : Nat) : toldP (path ++ [y]) n = toldP path n ++ [y.stage + 1, y.at_] := by
  unfold toldP
  rw [List.flatMap_append]
  rfl
theorem ok_told {f : Addr} {fd : FuncData} (F : Fun K "run_told" "run_told" sTold f fd) (T : Txt K c) (mLen : mg "len" = none) : FnOk P w K mg base CX0 1 f fd ["run"] (spTold c) := by
  refine F.ok scTold ?_ ?_
  · rintro vs H Q E ⟨ra, r, rfl, _⟩
    rfl
  · intro cdv A outer s H vs Q E hr h
    refine ⟨_, (pss_cons (ps_set (i := 1) scTold.nd rfl (Or.inl rfl) (pe_lst (pa_cons (pe_callB call_len_seq (by rfl) mLen PySem.boot_len (pa_cons (pe_fld (pv 0) rfl) pa_nil)) pa_nil)))
      (pss_cons (ps_for PassesOwn.never rfl (pi_tup (pe_fld (pv 0) rfl)) (pg_tup rfl (pgs_cons (pg_name (i := 2) scTold.nd rfl (Or.inl rfl)) (pgs_cons (pg_name (i := 3) scTold.nd rfl (Or.inl rfl)) pgs_nil))) (pss_one (ps_expr (pe_bm PySem.F.plainAttrs_list PySem.F.slot_list_extend PySem.F.type_list_extend mt_extend (pv 1) (pa_cons (pe_lst (pa_cons (pv 3) (pa_cons (pv 2) pa_nil))) pa_nil)))))
      (pss_one (ps_ret (pv 1))))), ?_⟩
    obtain ⟨ra, r, rfl, ⟨rr, y, z, k1, k2, hro, hri⟩, hlen, q⟩ := h
    obtain ⟨ts, ets, hts⟩ := hri.key
    have htl : ts.length = r.path.length := by rw [pair_len hts, List.length_map]
    refine ⟨_, rfl, T.run_taken hro ⟨rr.t, _, rfl, .inr (.inl (.inl ets)), by show 1 ≤ sizeLine; decide, fun l nl => ?_⟩⟩
    have s0 : ∀ o, Same H (upd H l o) := fun o => same_new (Same.refl H) nl o
    refine ⟨_, rfl, T.run_taken (hro.same (s0 _)) ⟨rr.t, rfl, ⟨_, .inl (.inl (s0 _ _ _ ets))⟩, ?_⟩⟩
    refine for_tup (xs := ts.map V.ref) (fun i σ H1 => ∃ v2 v3, σ = [some (.ref ra), some (.ref l), v2, v3] ∧ Same H H1 ∧ H1 l = some (.lst ((toldP (r.path.take i) r.path.length).map I))) ⟨none, none, rfl, s0 _, ?_⟩ (fun i σ H1 _ ⟨_, _, _, s1, _⟩ => .inl (.inl (s1 _ _ ets))) ?_ ?_
    · rw [upd_same, List.length_map, htl]
      rfl
    · rintro i x σ H1 hx ⟨v2, v3, rfl, s1, e1⟩
      obtain ⟨b0, y0, rfl, hy0, e0⟩ := path_item hts hx
      refine ⟨b0, _, rfl, .inl (.inl (s1 _ _ e0)), rfl, _, _, rfl, _, _, rfl, rfl, ?_⟩
      refine ⟨_, rfl, tyL e1, _, rfl, _, rfl, by show 2 ≤ sizeLine; decide, fun b nb => ?_⟩
      have s2 : Same H1 (upd H1 b (.lst [I (y0.stage + 1), I y0.at_])) := same_new (Same.refl H1) nb _
      refine ⟨l, b, _, _, rfl, rfl, s2 _ _ e1, upd_same, ?_, ?_⟩
      · rw [List.length_map, toldP_len, List.length_take]
        show _ + 2 ≤ sizeLine
        have : sizeLine = 16777216 := sizeLine_eq
        omega
      · refine ⟨_, _, rfl, same_new (s1.trans s2) nl _, ?_⟩
        rw [upd_same, take_next hy0, toldP_snoc, List.map_append]
        rfl
    · rintro σ H1 ⟨v2, v3, rfl, s1, e1⟩
      rw [List.length_map, htl, List.take_length] at e1
      exact ⟨_, rfl, q H1 l s1 nl e1⟩
end
end G

/-! ## PRd9 -/
/-! Refused, want, is_stage, rows_of, is_skip. -/
namespace G
open PySem PySem.Spec PyProof.Rows L2
/-- what the text says of the own error Refused, at C, and of its __init__, at fI -/
structure RTxt (K : PySem.W.Frag) (mg : Str → Option Value) (C fI : Addr) : Prop where
  oe : OexC K C
  xf : XfC K C
  no : PySem.W.findIn K (.ref C) "number" = some none
  iC : PySem.W.findIn K (.ref C) "__init__" = some (some (.ref fI))
  tI : PySem.W.typeIn K (.ref fI) = some (.type "function")
  g : mg "Refused" = some (.ref C)
  te : PySem.W.exmOne K (.ref C) (.ref C) = some true
  gV : mg "ValueError" = none
  vV : PySem.W.findCls K (.type "ValueError") (.type "type") "__init__" = some (.val (.builtin "ValueError.__init__"))
section
variable {P : Program} {w : World} {K : PySem.W.Frag} {mg : Str → Option Value} {base : Heap} {c : Cs} {C fI : Addr}
/-! ### Refused.__init__ -/
def spRefI (C : Addr) : Sp := fun vs H Q _ => ∃ (a : Addr) (n : Int), vs = [.ref a, .int n] ∧ H a = some (exo a C none) ∧ ∀ dx, H dx = none → dx ≠ a → Q .non (upd (upd H dx (exd dx [("number", .int n)])) a (exo a C (some dx)))
abbrev sRefI : Stmt := inClass (top 51) 0
theorem scRefI : FnScope ["self", "number"] ["self", "number"] (defScope sRefI) := ⟨rfl, rfl, rfl, by decide +kernel, rfl, by decide +kernel, by decide +kernel⟩
theorem ok_refI {f : Addr} {fd : FuncData} (F : Fun K "__init__" "Refused.__init__" sRefI f fd) (R : RTxt K mg C fI) : FnOk P w K mg base CX0 1 f fd ["self", "number"] (spRefI C) := by
  refine F.ok scRefI ?_ ?_
  · rintro vs H Q E ⟨a, n, rfl, _⟩
    rfl
  · intro cdv A outer s H vs Q E hr h
    refine ⟨_, (pss_cons (ps_expr (pe_veinit rfl R.gV R.vV (pa_cons (pv 0) (pa_cons pe_str pa_nil))))
      (pss_one (ps_ost (pv 0) (pv 1)))), ?_⟩
    obtain ⟨a, n, rfl, ha, q⟩ := h
    refine ⟨_, rfl, a, C, _, rfl, by show 1 ≤ 1000; decide, R.oe, ha, ?_⟩
    exact ⟨_, rfl, _, rfl, a, C, rfl, R.oe, R.no, .inl ⟨ha, fun dx n1 n2 => q dx n1 n2⟩⟩
/-! ### want -/
def spWant (C : Addr) : Sp := fun vs H Q E => ∃ (b : Bool) (n : Int), vs = [.bl b, .int n] ∧ (b = true → Q .non H) ∧ (b = false → ∀ H' d, Same H H' → H d = none → H' d = some (.xd [("number", .int n)]) → E (.ref C) (some d) H')
abbrev sWant : Stmt := top 52
theorem scWant : FnScope ["is_so", "number"] ["is_so", "number"] (defScope sWant) := ⟨rfl, rfl, rfl, by decide +kernel, rfl, by decide +kernel, by decide +kernel⟩
theorem ok_want {f : Addr} {fd fdI : FuncData} (F : Fun K "want" "want" sWant f fd) (R : RTxt K mg C fI) (bI : Binds K fdI ["self", "number"] []) (GI : FnOk P w K mg base CX0 1 fI fdI ["self", "number"] (spRefI C)) : FnOk P w K mg base (L2.CX P w) 3 f fd ["is_so", "number"] (spWant C) := by
  refine F.okX scWant ?_ ?_
  · rintro vs H Q E ⟨b, n, rfl, _⟩
    rfl
  · intro cdv A outer s H vs Q E hr h
    refine ⟨_, pss_one (ps_if (pt_not (pt_val (pv 0))) (pss_one (ps_raise rfl (takes_of (E := E) rfl rfl rfl rfl) (pmk_oex R.oe R.iC R.tI GI hr bI .nil (fun _ _ _ _ _ _ _ z => z.elim) rfl R.g (pa_cons (pv 1) pa_nil)))) pss_nil), ?_⟩
    obtain ⟨b, n, rfl, q1, q2⟩ := h
    refine ⟨_, rfl, b, rfl, ?_⟩
    cases b with
    | true => exact iteF (q1 rfl)
    | false =>
      refine iteT ⟨_, rfl, by show 1 ≤ 1000; decide, fun a na => ?_⟩
      refine ⟨a, n, rfl, upd_same, fun dx n1 n2 => ⟨rfl, dx, [("number", .int n)], upd_same, ?_, ?_, ?_⟩⟩
      · rw [upd_ne n2]
        exact upd_same
      · rw [upd_ne n2] at n1
        exact n1
      · have ndx : H dx = none := by
          rw [upd_ne n2] at n1
          exact n1
        refine q2 rfl _ dx (fun x u hx => ?_) ndx upd_same
        have h1 : x ≠ a := ne_of_none hx na
        have h2 : x ≠ dx := ne_of_none hx ndx
        rw [upd_ne h2, del_ne h1, upd_ne h1, upd_ne h2, upd_ne h1]
        exact hx
/-! ### is_stage -/
def spIsStage (_ : Cs) : Sp := fun vs H Q _ => ∃ (a : Addr) (x : Hs10.Stage), vs = [.ref a] ∧ H a = some (.lst (stN x)) ∧ ∀ H', Same H H' → Q (.bl (Hs10.isStage x)) H'
abbrev sIsStage : Stmt := top 53
theorem scIsStage : FnScope ["row", "sort", "follows", "repeats", "kind", "test", "bound"] ["row"] (defScope sIsStage) := ⟨rfl, rfl, rfl, by decide +kernel, rfl, by decide +kernel, by decide +kernel⟩
theorem isStage_bad1 {x : Hs10.Stage} (h : 4 < x.sort ∨ 2 < x.follow ∨ 2 < x.inner ∨ 10 < x.kind ∨ 6 < x.test ∨ 1000000 < x.n) : Hs10.isStage x = false := by
  unfold Hs10.isStage
  rw [Bool.and_eq_false_iff, Bool.and_eq_false_iff]
  left
  left
  simp only [Bool.and_eq_false_iff, decide_eq_false_iff_not]
  omega
theorem isStage_ok {x : Hs10.Stage} (h : ¬ (4 < x.sort ∨ 2 < x.follow ∨ 2 < x.inner ∨ 10 < x.kind ∨ 6 < x.test ∨ 1000000 < x.n)) : Hs10.isStage x = ((Hs10.isMany x || x.inner == 0) && (!Hs10.isNot x || x.follow == 0)) := by
  unfold Hs10.isStage
  rw [show (decide (x.sort ≤ 4) && (decide (x.follow ≤ 2) && (decide (x.inner ≤ 2) && (decide (x.kind ≤ 10) && (decide (x.test ≤ 6) && decide (x.n ≤ 1000000)))))) = true by
    simp only [Bool.and_eq_true, decide_eq_true_eq]
    omega, Bool.true_and]
theorem ok_isStage {f : Addr} {fd : FuncData} (F : Fun K "is_stage" "is_stage" sIsStage f fd) (m1 : CI mg "NONE_BETWEEN" 4) (m2 : CI mg "MOST_FOLLOWS" 2) (m3 : CI mg "ANY_KIND" 10) (m4 : CI mg "MOST_TEST" 6) (m5 : CI mg "GREATEST" 1000000) (m6 : CI mg "SOME" 2) (m7 : CI mg "ANY" 3) :
    FnOk P w K mg base CX0 1 f fd ["row"] (spIsStage c) := by
  obtain ⟨t1, m1⟩ := m1
  obtain ⟨t2, m2⟩ := m2
  obtain ⟨t3, m3⟩ := m3
  obtain ⟨t4, m4⟩ := m4
  obtain ⟨t5, m5⟩ := m5
  obtain ⟨t6, m6⟩ := m6
  obtain ⟨t7, m7⟩ := m7
  refine F.ok scIsStage ?_ ?_
  · rintro vs H Q E ⟨a, x, rfl, _⟩
    rfl
  · intro cdv A outer s H vs Q E hr h
    refine ⟨_, (pss_cons (ps_asg (pv 0) (pg_lst rfl (pgs_cons (pg_name (i := 1) scIsStage.nd rfl (Or.inl rfl)) (pgs_cons (pg_name (i := 2) scIsStage.nd rfl (Or.inl rfl)) (pgs_cons (pg_name (i := 3) scIsStage.nd rfl (Or.inl rfl)) (pgs_cons (pg_name (i := 4) scIsStage.nd rfl (Or.inl rfl)) (pgs_cons (pg_name (i := 5) scIsStage.nd rfl (Or.inl rfl)) (pgs_cons (pg_name (i := 6) scIsStage.nd rfl (Or.inl rfl)) pgs_nil))))))))
      (pss_cons (ps_if (PW.pt (pw_or (pt_cmpR op_gt (pv 1) (pe_glob (v := .int 4) rfl m1 ⟨_, rfl⟩) (nomark _)) (pw_or (pt_cmpR op_gt (pv 2) (pe_glob (v := .int 2) rfl m2 ⟨_, rfl⟩) (nomark _)) (pw_or (pt_cmpR op_gt (pv 3) (pe_glob (v := .int 2) rfl m2 ⟨_, rfl⟩) (nomark _)) (pw_or1 (pt_cmpR op_gt (pv 4) (pe_glob (v := .int 10) rfl m3 ⟨_, rfl⟩) (nomark _))))))) (pss_one (ps_ret pe_bl)) pss_nil)
      (pss_cons (ps_if (PW.pt (pw_or (pt_cmpR op_gt (pv 5) (pe_glob (v := .int 6) rfl m4 ⟨_, rfl⟩) (nomark _)) (pw_or1 (pt_cmpR op_gt (pv 6) (pe_glob (v := .int 1000000) rfl m5 ⟨_, rfl⟩) (nomark _))))) (pss_one (ps_ret pe_bl)) pss_nil)
      (pss_cons (ps_if (PW.pt (pw_and (pt_cmpR op_notIn_seq (pv 1) (pe_tup (pa_cons (pe_glob (v := .int 2) rfl m6 ⟨_, rfl⟩) (pa_cons (pe_glob (v := .int 3) rfl m7 ⟨_, rfl⟩) pa_nil))) (by rfl)) (pw_and1 (pt_cmpR op_ne (pv 3) pe_int (nomark _))))) (pss_one (ps_ret pe_bl)) pss_nil)
      (pss_one (ps_ret (pe_or (pe_cmpR op_ne (pv 1) (pe_glob (v := .int 4) rfl m1 ⟨_, rfl⟩) (nomark _)) (pe_one (pe_cmpR op_eq (pv 2) pe_int (nomark _)))))))))), ?_⟩
    obtain ⟨a, x, rfl, ha, q⟩ := h
    refine ⟨_, rfl, a, _, rfl, SqL.lst ha, rfl, _, _, rfl, _, _, rfl, _, _, rfl, _, _, rfl, _, _, rfl, _, _, rfl, rfl, ?_⟩
    have bad : (4 < x.sort ∨ 2 < x.follow ∨ 2 < x.inner ∨ 10 < x.kind ∨ 6 < x.test ∨ 1000000 < x.n) → Q (.bl false) H := fun hb => by
      have q' := q H (Same.refl H)
      rw [isStage_bad1 hb] at q'
      exact q'
    refine ⟨_, rfl, _, _, rfl, rfl, _, rfl, ifd (dL 4 x.sort) (fun h1 => iteT (bad (by omega))) (fun h1 => ?_)⟩
    refine ⟨_, rfl, _, _, rfl, rfl, _, rfl, ifd (dL 2 x.follow) (fun h2 => iteT (bad (by omega))) (fun h2 => ?_)⟩
    refine ⟨_, rfl, _, _, rfl, rfl, _, rfl, ifd (dL 2 x.inner) (fun h3 => iteT (bad (by omega))) (fun h3 => ?_)⟩
    refine ⟨_, rfl, _, _, rfl, rfl, _, rfl, ifd (dL 10 x.kind) (fun h4 => bad (by omega)) (fun h4 => ?_)⟩
    refine ⟨_, rfl, _, _, rfl, rfl, _, rfl, ifd (dL 6 x.test) (fun h5 => iteT (bad (by omega))) (fun h5 => ?_)⟩
    refine ⟨_, rfl, _, _, rfl, rfl, _, rfl, ifd (dL 1000000 x.n) (fun h6 => bad (by omega)) (fun h6 => ?_)⟩
    have hok : Hs10.isStage x = ((Hs10.isMany x || x.inner == 0) && (!Hs10.isNot x || x.follow == 0)) := isStage_ok (by omega)
    rw [hok] at q
    refine ⟨_, rfl, by show 2 ≤ sizeLine; decide, fun t nt => ⟨t, _, rfl, .inr (.inl (.inl upd_same)), rfl, rfl, _, rfl, ?_⟩⟩
    have q' := q _ (same_new (Same.refl H) nt (.tup [.int 2, .int 3]))
    have em : Hs10.isMany x = inV (I x.sort) [I 2, I 3] := by
      rw [in2]
      rfl
    show if (!inV (I x.sort) [I 2, I 3]) = true then _ else _
    rw [← em]
    have fin : ∀ D : Ends, D.rt = Q → (Hs10.isMany x || x.inner == 0) = true → (tRet (tOrV (tOp rNe (tVar 1) (tC (.int 4))) (tOp rEq (tVar 2) (tC (.int 0))))) D [some (.ref a), some (I x.sort), some (I x.follow), some (I x.inner), some (I x.kind), some (I x.test), some (I x.n)] (upd H t (.tup [.int 2, .int 3])) := fun D hD hm => by
      rw [hm, Bool.true_and] at q'
      refine ⟨_, rfl, rfl, _, rfl, ifd (dN x.sort 4) (fun h7 => ?_) (fun h7 => ?_)⟩
      · have e1 : (!Hs10.isNot x || x.follow == 0) = true := by
          unfold Hs10.isNot
          rw [show (x.sort == 4) = false by simpa using h7]
          rfl
        rw [e1] at q'
        show D.rt _ _
        rw [hD]
        exact q'
      · have e1 : (!Hs10.isNot x || x.follow == 0) = decide (V.int (x.follow : Int) = V.int ((0 : Nat) : Int)) := by
          unfold Hs10.isNot
          rw [show (x.sort == 4) = true by simp; omega, dE, Bool.eq_iff_iff]
          simp
        rw [e1] at q'
        refine ⟨_, rfl, rfl, ?_⟩
        show D.rt _ _
        rw [hD]
        exact q'
    cases hm : Hs10.isMany x with
    | true => exact iteF (fin _ rfl (by rw [hm]; rfl))
    | false =>
      refine iteT ⟨_, rfl, rfl, _, rfl, ifd (dN x.inner 0) (fun h7 => ?_) (fun h7 => ?_)⟩
      · rw [hm, show (x.inner == 0) = false by simpa using h7] at q'
        exact q'
      · exact fin _ rfl (by rw [hm]; simp; omega)
/-! ### is_skip -/
def skipB (way pivot many : Nat) : Bool := if way = 3 then decide (1 ≤ pivot) && decide (pivot ≤ many) else decide (way < 3) && decide (pivot = 0)
def spIsSkip (_ : Cs) : Sp := fun vs H Q _ => ∃ a b m : Nat, vs = [I a, I b, I m] ∧ Q (.bl (skipB a b m)) H
abbrev sIsSkip : Stmt := top 55
theorem scIsSkip : FnScope ["way", "pivot", "many"] ["way", "pivot", "many"] (defScope sIsSkip) := ⟨rfl, rfl, rfl, by decide +kernel, rfl, by decide +kernel, by decide +kernel⟩
theorem ok_isSkip {f : Addr} {fd : FuncData} (F : Fun K "is_skip" "is_skip" sIsSkip f fd) (m1 : CI mg "BEHIND_PIVOT" 3) : FnOk P w K mg base CX0 1 f fd ["way", "pivot", "many"] (spIsSkip c) := by
  obtain ⟨t1, m1⟩ := m1
  refine F.ok scIsSkip ?_ ?_
  · rintro vs H Q E ⟨a, b, m, rfl, _⟩
    rfl
  · intro cdv A outer s H vs Q E hr h
    refine ⟨_, (pss_cons (ps_if (pt_cmpR op_eq (pv 0) (pe_glob (v := .int 3) rfl m1 ⟨_, rfl⟩) (nomark _)) (pss_one (ps_ret (pe_chain op_le op_le pe_int (pv 1) (pv 2)))) pss_nil)
      (pss_one (ps_ret (pe_and (pe_cmpR op_lt (pv 0) (pe_glob (v := .int 3) rfl m1 ⟨_, rfl⟩) (nomark _)) (pe_one (pe_cmpR op_eq (pv 1) pe_int (nomark _))))))), ?_⟩
    obtain ⟨a, b, m, rfl, q⟩ := h
    unfold skipB at q
    refine ⟨_, rfl, rfl, _, rfl, ifd (dE a 3) (fun h1 => ?_) (fun h1 => ?_)⟩
    · rw [if_pos h1] at q
      refine ⟨_, rfl, _, _, rfl, rfl, _, rfl, ifd (dLe 1 b) (fun h2 => ?_) (fun h2 => ?_)⟩
      · rw [decide_eq_true h2, Bool.true_and, ← dLe] at q
        exact ⟨_, rfl, _, _, rfl, rfl, q⟩
      · rw [decide_eq_false h2, Bool.false_and] at q
        exact q
    · rw [if_neg h1] at q
      refine ⟨_, rfl, _, _, rfl, rfl, _, rfl, ifd (dL a 3) (fun h2 => ?_) (fun h2 => ?_)⟩
      · rw [decide_eq_true h2, Bool.true_and, ← dE] at q
        exact ⟨_, rfl, rfl, q⟩
      · rw [decide_eq_false h2, Bool.false_and] at q
        exact q
/-! ### rows_of -/
theorem sixes_len : ∀ (m : Nat) (ns : List Nat), ns.length = 6 * m → (Hs10.sixes ns).length = m
  | 0, [], _ => rfl
  | m + 1, a :: b :: c :: d :: e :: f :: r, h => by
    show (Hs10.sixes r).length + 1 = m + 1
    rw [sixes_len m r (by simp at h; omega)]
theorem sixes_get : ∀ (m : Nat) (ns : List Nat), ns.length = 6 * m → ∀ i, i < m → ∃ x, (Hs10.sixes ns)[i]? = some x ∧ ((ns.take (6 * i + 6)).drop (6 * i)).map I = stN x
  | 0, _, _, i, hi => absurd hi (by omega)
  | m + 1, a :: b :: c :: d :: e :: f :: r, h, 0, _ => ⟨⟨a, b, c, d, e, f⟩, rfl, by
      show (((a :: b :: c :: d :: e :: f :: r).take 6).drop 0).map I = _
      rfl⟩
  | m + 1, a :: b :: c :: d :: e :: f :: r, h, i + 1, hi => by
    obtain ⟨x, h1, h2⟩ := sixes_get m r (by simp at h; omega) i (by omega)
    refine ⟨x, h1, ?_⟩
    have e1 : 6 * (i + 1) + 6 = (6 * i + 6) + 6 := by omega
    have e2 : 6 * (i + 1) = 6 * i + 6 := by omega
    rw [e1, e2]
    exact h2
def spRows (K : PySem.W.Frag) : Sp := fun vs H Q _ => ∃ (a : Addr) (ns : List Nat) (m : Nat), vs = [.ref a] ∧ SqL K H a (ns.map I) ∧ ns.length = 6 * m ∧ 1 ≤ m ∧ m ≤ 8 ∧
  ∀ H' l bs, Same H H' → H l = none → H' l = some (.lst (bs.map V.ref)) → Paired (fun b x => H' b = some (.lst (stN x))) bs (Hs10.sixes ns) → Q (.ref l) H'
abbrev sRows : Stmt := top 54
theorem scRows : FnScope ["numbers", "at"] ["numbers"] (defScope sRows) := ⟨rfl, rfl, rfl, by decide +kernel, rfl, by decide +kernel, by decide +kernel⟩
theorem range6 {m : Nat} (h1 : 1 ≤ m) (h8 : m ≤ 8) : RgC 0 ((6 * m : Nat) : Int) 6 m := by
  have : m = 1 ∨ m = 2 ∨ m = 3 ∨ m = 4 ∨ m = 5 ∨ m = 6 ∨ m = 7 ∨ m = 8 := by omega
  rcases this with rfl | rfl | rfl | rfl | rfl | rfl | rfl | rfl <;> exact ⟨by decide, by decide, by decide +kernel, by decide +kernel⟩
theorem stN_ne (x : Hs10.Stage) (bs : List Addr) : HO.lst (stN x) ≠ HO.lst (bs.map V.ref) := fun z => by
  injection z with z
  cases bs with
  | nil => cases z
  | cons b r =>
    injection z with z _
    cases z
theorem ok_rows {f : Addr} {fd : FuncData} (F : Fun K "rows_of" "rows_of" sRows f fd) (m1 : CI mg "NUMBERS_EACH" 6) (mR : mg "range" = none) (mLen : mg "len" = none) : FnOk P w K mg base CX0 1 f fd ["numbers"] (spRows K) := by
  obtain ⟨t1, m1⟩ := m1
  refine F.ok scRows ?_ ?_
  · rintro vs H Q E ⟨a, ns, m, rfl, _⟩
    rfl
  · intro cdv A outer s H vs Q E hr h
    refine ⟨_, pss_one (ps_ret (pe_lc (own := [("at", 1)]) (g := gName 1) (tt := tYes) (te := tSl (rSlL K) (tVar 0) (tPart (tVar 1)) (tPart (tOp (rI0 fun i j => .int (i + j)) (tVar 1) (tC (.int 6))))) rfl scRows.nd (pi_range3 (by rfl) mR (pa_cons pe_int (pa_cons (pe_callB call_len_seq (by rfl) mLen PySem.boot_len (pa_cons (pv 0) pa_nil)) (pa_cons (pe_glob (v := .int 6) rfl m1 ⟨_, rfl⟩) pa_nil)))) (blkOk_by (N := ["numbers", "at"]) (sc := defScope sRows) (by decide +kernel)) (fun _ _ _ _ _ => pg_name (i := 1) scRows.nd rfl (Or.inl rfl)) (fun _ _ _ _ _ => pts_nil) (fun _ _ _ _ _ => pe_slice sl_list (pv 0) (po_some (pv 1)) (po_some (pe_op op_add (pv 1) (pe_glob (v := .int 6) rfl m1 ⟨_, rfl⟩)))))), ?_⟩
    obtain ⟨a, ns, m, rfl, ha, hl, hm1, hm8, q⟩ := h
    refine ⟨_, rfl, a, _, rfl, .inl ha, 0, ((6 * m : Nat) : Int), 6, m, ?_, range6 hm1 hm8, fun D nD => ?_⟩
    · rw [List.length_map, hl]
    refine lc_it (walk_rangeC (lo := 0) (c := 6) (n := m)) (fun i H1 => Same H H1 ∧ ∃ bs, H1 D = some (.lst (bs.map V.ref)) ∧ Paired (fun b x => H1 b = some (.lst (stN x))) bs ((Hs10.sixes ns).take i)) ⟨same_new (Same.refl H) nD _, [], upd_same, .nil⟩ (fun _ _ _ _ => trivial) ?_ ?_
    · rintro i x0 H1 H2 hi ⟨s1, bs, e1, p1⟩ ⟨rfl, ex0⟩
      have ei : (0 : Int) + (i : Nat) * 6 = ((6 * i : Nat) : Int) := by omega
      have ex1 : x0 = V.int ((6 * i : Nat) : Int) := ex0.trans (congrArg V.int ei)
      subst ex1
      refine ⟨rfl, ?_⟩
      refine ⟨_, rfl, _, rfl, _, rfl, _, rfl, _, _, rfl, rfl, _, rfl, a, _, rfl, s1.seq ha, fun b nb => ?_⟩
      have e2 : ((6 * i : Nat) : Int) + 6 = ((6 * i + 6 : Nat) : Int) := by omega
      obtain ⟨x, hx, hcut⟩ := sixes_get m ns hl i hi
      have ecut : cutV (ns.map I) (some ((6 * i : Nat) : Int)) (some (((6 * i : Nat) : Int) + 6)) = stN x := by
        rw [e2, cut_nat, ← List.map_take, ← List.map_drop]
        exact hcut
      rw [ecut]
      have s2 : Same H2 (upd H2 b (.lst (stN x))) := same_new (Same.refl H2) nb _
      refine ⟨_, s2 _ _ e1, ?_, same_new (s1.trans s2) nD _, bs ++ [b], by rw [upd_same, List.map_append]; rfl, ?_⟩
      · have h1 := pair_len p1
        rw [List.length_map, h1, List.length_take]
        have : sizeLine = 16777216 := sizeLine_eq
        omega
      · rw [take_next hx]
        have ne : ∀ {b' : Addr} {x' : Hs10.Stage}, (upd H2 b (.lst (stN x))) b' = some (.lst (stN x')) → b' ≠ D := fun {b' x'} hb => ne_of hb (s2 _ _ e1) (stN_ne x' bs)
        refine pair_snoc ?_ (pair_mono p1 fun b' x' hb => ?_)
        · rw [upd_ne (ne upd_same)]
          exact upd_same
        · rw [upd_ne (ne (s2 _ _ hb))]
          exact s2 _ _ hb
    · rintro H1 ⟨s1, bs, e1, p1⟩
      rw [List.take_of_length_le (by rw [sixes_len m ns hl]; exact Nat.le_refl _)] at p1
      exact q H1 D bs s1 nD e1 p1
end
end G

/-! ## PRd10 -/
/-! Desk: how it lies in the heap; new_runs. -/
namespace G
open PySem PySem.Spec PyProof.Rows L2
/-! ### a heap with a part of it hidden -/
noncomputable def hid (Z : Addr → Prop) (H : Hp) : Hp := open Classical in fun b => if Z b then none else H b
theorem hid_yes {Z : Addr → Prop} {H : Hp} {b : Addr} (h : Z b) : hid Z H b = none := if_pos h
theorem hid_no {Z : Addr → Prop} {H : Hp} {b : Addr} (h : ¬ Z b) : hid Z H b = H b := if_neg h
theorem hid_same (Z : Addr → Prop) (H : Hp) : Same (hid Z H) H := fun b o e => by
  by_cases h : Z b
  · rw [hid_yes h] at e
    cases e
  · rw [hid_no h] at e
    exact e
theorem Fr.start {Z : Addr → Prop} {H G : Hp} (s : Same G H) (hz : ∀ b, Z b → G b = none) : Fr (hid Z H) G H G :=
  ⟨fun b o e => by
    rw [hid_no fun z => by rw [hz b z] at e; cases e]
    exact s b o e, hid_same Z H, Same.refl _, s, fun _ _ h => h⟩
/-- a desk: the state s (its runs in order), its skip k -/
def DeskIn (c : Cs) (G : Hp) (a : Addr) (s : Hs10.St) (k : Sk) : Prop := ∃ (sA kA rA b : Addr) (as : List Addr), DeskO c G a ⟨sA, s.pattern.within, kA, rA, s.count, s.now, s.told⟩ ∧ StagesAt c G sA s.pattern.stages ∧
  SkipO c G kA ⟨k.way, k.pivot, k.shut, b⟩ ∧ G b = some (.dK (bk k.begins)) ∧ G rA = some (.lst (as.map V.ref)) ∧ Runs c G as (sortR s.runs)
theorem DeskIn.same {c : Cs} {G G' : Hp} {a : Addr} {s : Hs10.St} {k : Sk} (h : DeskIn c G a s k) (sm : Same G G') : DeskIn c G' a s k :=
  let ⟨sA, kA, rA, b, as, h1, h2, h3, h4, h5, h6⟩ := h
  ⟨sA, kA, rA, b, as, h1.same sm, h2.same sm, h3.same sm, sm _ _ h4, sm _ _ h5, runs_same h6 sm⟩
/-- a desk that is ours: G is what its object refers to, and the object itself -/
def DeskAt (c : Cs) (G : Hp) (a : Addr) (s : Hs10.St) (k : Sk) : Prop := ∃ (G0 : Hp) (dx sA kA rA b : Addr) (as : List Addr), G0 a = none ∧ G = upd G0 a (.ins c.cD dx (fsDesk ⟨sA, s.pattern.within, kA, rA, s.count, s.now, s.told⟩)) ∧ StagesAt c G0 sA s.pattern.stages ∧
  SkipO c G0 kA ⟨k.way, k.pivot, k.shut, b⟩ ∧ G0 b = some (.dK (bk k.begins)) ∧ G0 rA = some (.lst (as.map V.ref)) ∧ Runs c G0 as (sortR s.runs)
theorem DeskAt.inn {c : Cs} {G : Hp} {a : Addr} {s : Hs10.St} {k : Sk} (h : DeskAt c G a s k) : DeskIn c G a s k := by
  obtain ⟨G0, dx, sA, kA, rA, b, as, n, rfl, h2, h3, h4, h5, h6⟩ := h
  have sm : Same G0 (upd G0 a (.ins c.cD dx (fsDesk ⟨sA, s.pattern.within, kA, rA, s.count, s.now, s.told⟩))) := same_new (Same.refl _) n _
  exact ⟨sA, kA, rA, b, as, ⟨dx, upd_same⟩, h2.same sm, h3.same sm, sm _ _ h4, sm _ _ h5, runs_same h6 sm⟩
/-- what a method of a desk leaves: our part is G' now; what stood outside of G stands (but for the table at PT) -/
structure Out (PT : Addr) (H G H' G' : Hp) : Prop where
  sub : Same G' H'
  old : ∀ b o, H b = some o → G b = none → b ≠ PT → H' b = some o ∧ G' b = none
  tab : Tb H' PT
  noT : G' PT = none
theorem grown_len (p : Hs10.Pattern) (i : Nat) (e : Hs10.Ev) (r : Hs10.Run) : (Hs10.grown p i e r).length ≤ r.open_.length := by
  unfold Hs10.grown
  split
  · exact Nat.zero_le _
  · rw [List.length_map]
    exact List.length_filter_le _ _
theorem flat_len {α β : Type} (f : α → List β) (n : Nat) : ∀ l : List α, (∀ x ∈ l, (f x).length ≤ n) → (l.flatMap f).length ≤ n * l.length
  | [], _ => Nat.zero_le _
  | x :: r, h => by
    have ih := flat_len f n r fun y hy => h y (List.mem_cons_of_mem _ hy)
    have h1 := h x (List.mem_cons_self ..)
    rw [List.flatMap_cons, List.length_append, List.length_cons]
    rw [Nat.mul_add, Nat.mul_one]
    omega
theorem open_le {p : Hs10.Pattern} {n : Nat} {r : Hs10.Run} (h : RunOk p n r) (h8 : p.stages.length ≤ 8) : r.open_.length ≤ 8 := by
  have h1 := h.op.length_le
  rw [List.length_range] at h1
  omega
section
variable {P : Program} {w : World} {K : PySem.W.Frag} {mg : Str → Option Value} {base : Heap} {c : Cs} {C fI : Addr}
/-! ### new_runs -/
def spNew (c : Cs) : Sp := fun vs H Q _ => ∃ (G : Hp) (a b : Addr) (s : Hs10.St) (e : EvR) (sA rA : Addr) (as : List Addr) (kA : Addr), vs = [.ref a, .ref b] ∧ Same G H ∧ DeskO c H a ⟨sA, s.pattern.within, kA, rA, s.count, s.now, s.told⟩ ∧ StagesAt c H sA s.pattern.stages ∧ H rA = some (.lst (as.map V.ref)) ∧ Runs c G as (sortR s.runs) ∧
  StOk s ∧ s.count ≤ 10000 ∧ EvAt c G b e ∧ e.i = s.count + 1 ∧ ∀ H' G' l bs, Fr H G H' G' → H l = none → G' l = none → H' l = some (.lst (bs.map V.ref)) → Runs c G' bs (Hs10.newRuns (srt s) e.ev) → Q (.ref l) H'
abbrev sNew : Stmt := inClass (top 57) 2
theorem scNew : FnScope ["self", "event", "found", "run", "number"] ["self", "event"] (defScope sNew) := ⟨rfl, rfl, rfl, by decide +kernel, rfl, by decide +kernel, by decide +kernel⟩
theorem ok_new {f f1 f2 f3 f4 : Addr} {fd fd1 fd2 fd3 fd4 : FuncData} (F : Fun K "new_runs" "Desk.new_runs" sNew f fd) (T : Txt K c) (D1 : Df K mg "taking" sTaking ["stages", "run", "event", "limit"] f1 fd1) (G1 : FnOk P w K mg base CX0 4 f1 fd1 ["stages", "run", "event", "limit"] (spTaking c))
    (D2 : Df K mg "firsts" sFirsts ["stages"] f2 fd2) (G2 : FnOk P w K mg base CX0 2 f2 fd2 ["stages"] (spFirsts c)) (D3 : Df K mg "fits_first" sFitsF ["stage", "event"] f3 fd3) (G3 : FnOk P w K mg base CX0 2 f3 fd3 ["stage", "event"] (spFitsF c))
    (D4 : Df K mg "begun" sBegun ["stages", "number", "event"] f4 fd4) (G4 : FnOk P w K mg base CX0 3 f4 fd4 ["stages", "number", "event"] (spBegun c)) : FnOk P w K mg base CX0 5 f fd ["self", "event"] (spNew c) := by
  refine F.ok scNew ?_ ?_
  · rintro vs H Q E ⟨G, a, b, s, e, sA, rA, as, kA, rfl, _⟩
    rfl
  · intro cdv A outer s H vs Q E hr h
    have hr2 : Room 2 _ := hr.mono (by decide)
    have hr3 : Room 3 _ := hr.mono (by decide)
    refine ⟨_, (pss_cons (ps_set (i := 2) scNew.nd rfl (Or.inl rfl) (pe_lst pa_nil))
      (pss_cons (ps_for PassesOwn.never rfl (pi_list (pe_fld (pv 0) rfl)) (pg_name (i := 3) scNew.nd rfl (Or.inl rfl)) (pss_one (ps_expr (pe_bm PySem.F.plainAttrs_list PySem.F.slot_list_extend PySem.F.type_list_extend mt_extend (pv 2) (pa_cons (pe_call G1 hr rfl D1.g D1.F.kp D1.b .nil pass0 (pa_cons (pe_fld (pv 0) rfl) (pa_cons (pv 3) (pa_cons (pv 1) (pa_cons (pe_fld (pv 0) rfl) pa_nil))))) pa_nil)))))
      (pss_cons (ps_for PassesOwn.never rfl (pi_list (pe_call G2 hr2 rfl D2.g D2.F.kp D2.b .nil pass0 (pa_cons (pe_fld (pv 0) rfl) pa_nil))) (pg_name (i := 4) scNew.nd rfl (Or.inl rfl)) (pss_one (ps_if (pt_val (pe_call G3 hr2 rfl D3.g D3.F.kp D3.b .nil pass0 (pa_cons (pe_ix ix_list (pe_fld (pv 0) rfl) (pe_op op_sub (pv 4) pe_int) (fun _ _ => rfl)) (pa_cons (pv 1) pa_nil)))) (pss_one (ps_expr (pe_bm PySem.F.plainAttrs_list PySem.F.slot_list_append PySem.F.type_list_append mt_append (pv 2) (pa_cons (pe_call G4 hr3 rfl D4.g D4.F.kp D4.b .nil pass0 (pa_cons (pe_fld (pv 0) rfl) (pa_cons (pv 4) (pa_cons (pv 1) pa_nil)))) pa_nil)))) pss_nil)))
      (pss_one (ps_ret (pv 2)))))), ?_⟩
    obtain ⟨G, a, b, st, e, sA, rA, as, kA, rfl, s0, hd, hst, hr0, hrs, hok, hcnt, he, hei, q⟩ := h
    have h8 := hok.st.high
    have hso := hok.srt
    have hlen : (sortR st.runs).length ≤ 300 := hso.few
    refine ⟨Nat.zero_le _, fun l nl => ?_⟩
    have f0 : Fr H G (upd H l (.lst [])) G := (Fr.refl s0).only nl _
    refine ⟨_, rfl, T.desk_kept (hd.same f0.all) ⟨rA, rfl, ⟨_, SqL.lst (f0.all _ _ hr0)⟩, ?_⟩⟩
    refine for_list (K := K) (a := rA) (xs := as.map V.ref) (fun i σ H1 => ∃ G1 bs v3, σ = [some (.ref a), some (.ref b), some (.ref l), v3, none] ∧ Fr H G H1 G1 ∧ G1 l = none ∧ H1 l = some (.lst (bs.map V.ref)) ∧
      Runs c G1 bs (((sortR st.runs).take i).flatMap (Hs10.grown st.pattern (st.count + 1) e.ev))) ⟨G, [], none, rfl, f0, s0.free nl, upd_same, .nil⟩ (fun i σ H1 _ ⟨_, _, _, _, f1, _⟩ => SqL.lst (f1.all _ _ hr0)) ?_ ?_
    · rintro i x σ H1 hx ⟨G1, bs, v3, rfl, f1, n1, e1, r1⟩
      obtain ⟨ra, hra, rfl⟩ := get_map hx
      obtain ⟨r, hr', hrr⟩ := pair_get hrs hra
      have hrok : RunOk st.pattern st.count r := hso.runs r (List.mem_of_getElem? hr')
      refine ⟨_, rfl, tyL e1, _, rfl, T.desk_stages (hd.same f1.all) ⟨_, rfl, _, rfl, _, rfl, T.desk_limit (hd.same f1.all) ?_⟩⟩
      refine ⟨G1, sA, ra, b, st.pattern, r, e, rfl, f1.sub, hst.same f1.all, hok.st, hrr.same f1.up, Nat.le_trans hrok.len hcnt, hrok.op, he.same f1.up, fun H2 G2 l2 cs f2 n2 e2 r2 => ?_⟩
      rw [hei] at r2
      have n3 : G2 l = none := f2.stay e1 n1
      refine ⟨l, l2, _, _, rfl, rfl, f2.keep e1, e2, ?_, G2, bs ++ cs, _, rfl, (f1.trans f2).poke nl n3 _, n3, by rw [upd_same, List.map_append], ?_⟩
      · rw [List.length_map, List.length_map, pair_len r1, pair_len r2]
        have g1 := grown_len st.pattern (st.count + 1) e.ev r
        have g2 := open_le hrok h8
        have g3 := flat_len (Hs10.grown st.pattern (st.count + 1) e.ev) 8 ((sortR st.runs).take i) fun x hx => Nat.le_trans (grown_len _ _ _ _) (open_le (hso.runs x (List.mem_of_mem_take hx)) h8)
        rw [List.length_take] at g3
        have : sizeLine = 16777216 := sizeLine_eq
        omega
      · rw [take_next hr', List.flatMap_append, List.flatMap_cons, List.flatMap_nil, List.append_nil]
        exact pair_app r2 (runs_same r1 f2.up)
    · rintro σ H1 ⟨G1, bs, v3, rfl, f1, n1, e1, r1⟩
      rw [List.length_map, pair_len hrs, List.take_length] at r1
      refine ⟨_, rfl, T.desk_stages (hd.same f1.all) ⟨sA, st.pattern, rfl, hst.same f1.all, h8, fun H2 fl s2 nfl efl => ?_⟩⟩
      have f2 : Fr H G H2 G1 := f1.more s2
      refine ⟨fl, rfl, ⟨_, SqL.lst efl⟩, ?_⟩
      refine for_list (K := K) (a := fl) (xs := (Hs10.firstOnes st.pattern).map fun t => I (t + 1)) (fun i σ H3 => ∃ G3 cs v4, σ = [some (.ref a), some (.ref b), some (.ref l), v3, v4] ∧ Fr H G H3 G3 ∧ Same H2 (upd H3 l (.lst (bs.map V.ref))) ∧ G3 l = none ∧ H3 l = some (.lst (cs.map V.ref)) ∧
        Runs c G3 cs ((sortR st.runs).flatMap (Hs10.grown st.pattern (st.count + 1) e.ev) ++ (((Hs10.firstOnes st.pattern).take i).filter fun t => Hs10.fits (Hs10.stage st.pattern t) [] e.ev).map fun t => Hs10.taking st.pattern [] t (st.count + 1) e.ev))
        ⟨G1, bs, none, rfl, f2, by rw [upd_id (s2 _ _ e1)]; exact Same.refl _, n1, s2 _ _ e1, by rw [List.take_zero, List.filter_nil, List.map_nil, List.append_nil]; exact r1⟩ (fun i σ H3 _ ⟨_, _, _, _, _, s3, _⟩ => ?_) ?_ ?_
      · have ne : fl ≠ l := fun z => by
          rw [z, e1] at nfl
          cases nfl
        have := s3 _ _ efl
        rw [upd_ne ne] at this
        exact SqL.lst this
      · rintro i x σ H3 hx ⟨G3, cs, v4, rfl, f3, s3, n3, e3, r3⟩
        obtain ⟨t, ht, rfl⟩ := get_map hx
        have htl : t < st.pattern.stages.length := mem_range_of_sub (firsts_sub _) (List.mem_of_getElem? ht)
        obtain ⟨sas, hsa, hsp⟩ := hst
        obtain ⟨b0, hb0, hx0⟩ := pair_get' hsp (stage_get htl)
        have hb0' : (sas.map V.ref)[t]? = some (V.ref b0) := by
          rw [List.getElem?_map, hb0]
          rfl
        have et : ((t + 1 : Nat) : Int) - 1 = ((t : Nat) : Int) := by omega
        have hat : atI (sas.map V.ref) (((t + 1 : Nat) : Int) - 1) = some (V.ref b0) := by
          rw [et]
          exact atI_nat hb0'
        have keep : ∀ {G4 H4 : Hp}, Fr H3 G3 H4 G4 → G4 l = none → ∀ ds : List Addr, Same H2 (upd (upd H4 l (.lst (ds.map V.ref))) l (.lst (bs.map V.ref))) := fun {G4 H4} f4 n4 ds x u hx => by
          rw [upd_upd]
          by_cases hxl : x = l
          · rw [hxl, s2 _ _ e1] at hx
            cases hx
            rw [hxl, upd_same]
          · have := s3 _ _ hx
            rw [upd_ne hxl] at this ⊢
            exact f4.all _ _ this
        refine ⟨_, rfl, T.desk_stages (hd.same f3.all) ⟨_, rfl, _, _, rfl, rfl, sA, _, _, _, rfl, rfl, SqL.lst (f3.all _ _ hsa), hat, _, rfl, b0, b, _, e, rfl, hx0.same f3.all, (he.same f3.up).same f3.sub, fun H4 s4 => ⟨_, rfl, ?_⟩⟩⟩
        have f4 : Fr H3 G3 H4 G3 := (Fr.refl f3.sub).more s4
        have etake : (Hs10.firstOnes st.pattern).take (i + 1) = (Hs10.firstOnes st.pattern).take i ++ [t] := take_next ht
        cases hk : Hs10.fits (Hs10.stage st.pattern t) [] e.ev with
        | false =>
          refine iteF ⟨G3, cs, _, rfl, f3.trans f4, ?_, n3, s4 _ _ e3, ?_⟩
          · have := keep f4 n3 cs
            rw [show upd H4 l (.lst (cs.map V.ref)) = H4 from upd_id (s4 _ _ e3)] at this
            exact this
          · rw [etake, List.filter_append]
            simp only [List.filter_cons, hk, List.filter_nil, Bool.false_eq_true, if_false, List.append_nil]
            exact r3
        | true =>
          refine iteT ⟨_, rfl, tyL (s4 _ _ e3), _, rfl, T.desk_stages ((hd.same f3.all).same s4) ⟨_, rfl, _, rfl, ?_⟩⟩
          refine ⟨G3, sA, b, st.pattern, t, e, rfl, f4.sub, ⟨sas, s4 _ _ (f3.all _ _ hsa), pair_mono hsp fun _ _ z => (z.same f3.all).same s4⟩, h8, htl, he.same f3.up, fun H5 G5 x f5 rx => ?_⟩
          rw [hei] at rx
          have n5 : G5 l = none := f5.stay (s4 _ _ e3) n3
          refine ⟨l, _, _, rfl, rfl, f5.keep (s4 _ _ e3), ?_, G5, cs ++ [x], _, rfl, ((f3.trans f4).trans f5).poke nl n5 _, ?_, n5, by rw [upd_same, List.map_append]; rfl, ?_⟩
          · rw [List.length_map, pair_len r3, List.length_append, List.length_map]
            have g3 := flat_len (Hs10.grown st.pattern (st.count + 1) e.ev) 8 (sortR st.runs) fun x hx => Nat.le_trans (grown_len _ _ _ _) (open_le (hso.runs x hx) h8)
            have g4 := List.length_filter_le (fun t => Hs10.fits (Hs10.stage st.pattern t) [] e.ev) ((Hs10.firstOnes st.pattern).take i)
            rw [List.length_take] at g4
            have g5 := (firsts_sub st.pattern).length_le
            rw [List.length_range] at g5
            have : sizeLine = 16777216 := sizeLine_eq
            omega
          · have := keep (f4.trans f5) n5 (cs ++ [x])
            rw [List.map_append] at this
            exact this
          · rw [etake, List.filter_append]
            simp only [List.filter_cons, hk, List.filter_nil, if_true, List.map_append, List.map_cons, List.map_nil, ← List.append_assoc]
            exact pair_snoc rx (runs_same r3 f5.up)
      · rintro σ H3 ⟨G3, cs, v4, rfl, f3, s3, n3, e3, r3⟩
        rw [List.length_map, List.take_length] at r3
        exact ⟨_, rfl, q H3 G3 l cs f3 nl n3 e3 r3⟩
end
end G

/-! ## PRd11 -/
/-! Desk: runs, counts, earliest. -/
namespace G
open PySem PySem.Spec PyProof.Rows L2
theorem ints_map (l : List Nat) : (Hs10.ints l).map V.int = l.map I := by
  unfold Hs10.ints
  rw [List.map_map]
  rfl
section
variable {P : Program} {w : World} {K : PySem.W.Frag} {mg : Str → Option Value} {base : Heap} {c : Cs} {C fI : Addr}
/-! ### runs -/
def runTold (r : Hs10.Run) : List Nat := Hs10.pathTold r.path ++ r.open_.length :: r.open_.map fun t => t + 1
def runsTold (s : Hs10.St) : List Nat := s.runs.length :: (sortR s.runs).flatMap runTold
def spRuns (c : Cs) : Sp := fun vs H Q _ => ∃ (a : Addr) (s : Hs10.St) (k : Sk), vs = [.ref a] ∧ DeskIn c H a s k ∧ StOk s ∧ s.count ≤ 10000 ∧ ∀ H' l, Same H H' → H l = none → H' l = some (.lst ((runsTold s).map I)) → Q (.ref l) H'
abbrev sRuns : Stmt := inClass (top 57) 4
theorem scRuns : FnScope ["self", "found", "run"] ["self"] (defScope sRuns) := ⟨rfl, rfl, rfl, by decide +kernel, rfl, by decide +kernel, by decide +kernel⟩
theorem pathTold_len (path : List Hs10.Taken) : (Hs10.pathTold path).length = 1 + 2 * path.length := toldP_len _ path
theorem runTold_len {p : Hs10.Pattern} {n : Nat} {r : Hs10.Run} (h : RunOk p n r) (h8 : p.stages.length ≤ 8) (hn : n ≤ 10000) : (runTold r).length ≤ 20010 := by
  have h1 := open_le h h8
  have h2 := h.len
  have h3 := pathTold_len r.path
  unfold runTold
  rw [List.length_append, List.length_cons, List.length_map, h3]
  omega
theorem ok_runs {f f1 : Addr} {fd fd1 : FuncData} (F : Fun K "runs" "Desk.runs" sRuns f fd) (T : Txt K c) (D1 : Df K mg "run_told" sTold ["run"] f1 fd1) (G1 : FnOk P w K mg base CX0 1 f1 fd1 ["run"] (spTold c)) (mLen : mg "len" = none) : FnOk P w K mg base CX0 2 f fd ["self"] (spRuns c) := by
  refine F.ok scRuns ?_ ?_
  · rintro vs H Q E ⟨a, s, k, rfl, _⟩
    rfl
  · intro cdv A outer s H vs Q E hr h
    refine ⟨_, (pss_cons (ps_set (i := 1) scRuns.nd rfl (Or.inl rfl) (pe_lst (pa_cons (pe_callB call_len_seq (by rfl) mLen PySem.boot_len (pa_cons (pe_fld (pv 0) rfl) pa_nil)) pa_nil)))
      (pss_cons (ps_for PassesOwn.never rfl (pi_list (pe_fld (pv 0) rfl)) (pg_name (i := 2) scRuns.nd rfl (Or.inl rfl)) (pss_one (ps_expr (pe_bm PySem.F.plainAttrs_list PySem.F.slot_list_extend PySem.F.type_list_extend mt_extend (pv 1) (pa_cons (pe_op op_cat (pe_op op_cat (pe_call G1 hr rfl D1.g D1.F.kp D1.b .nil pass0 (pa_cons (pv 2) pa_nil)) (pe_lst (pa_cons (pe_callB call_len_seq (by rfl) mLen PySem.boot_len (pa_cons (pe_fld (pv 2) rfl) pa_nil)) pa_nil))) (pe_fld (pv 2) rfl)) pa_nil)))))
      (pss_one (ps_ret (pv 1))))), ?_⟩
    obtain ⟨a, st, k, rfl, ⟨sA, kA, rA, b, as, hd, hst, hk, hb, hr0, hrs⟩, hok, hcnt, q⟩ := h
    have hso := hok.srt
    have hlen : (sortR st.runs).length ≤ 300 := hso.few
    have h8 := hok.st.high
    refine ⟨_, rfl, T.desk_kept hd ⟨rA, _, rfl, .inl (SqL.lst hr0), by show 1 ≤ sizeLine; decide, fun l nl => ?_⟩⟩
    have s0 : ∀ o, Same H (upd H l o) := fun o => same_new (Same.refl H) nl o
    refine ⟨_, rfl, T.desk_kept (hd.same (s0 _)) ⟨rA, rfl, ⟨_, SqL.lst (s0 _ _ _ hr0)⟩, ?_⟩⟩
    refine for_list (K := K) (a := rA) (xs := as.map V.ref) (fun i σ H1 => ∃ v2, σ = [some (.ref a), some (.ref l), v2] ∧ Same H H1 ∧ H1 l = some (.lst ((st.runs.length :: ((sortR st.runs).take i).flatMap runTold).map I))) ⟨none, rfl, s0 _, ?_⟩ (fun i σ H1 _ ⟨_, _, s1, _⟩ => SqL.lst (s1 _ _ hr0)) ?_ ?_
    · rw [upd_same, List.length_map, pair_len hrs, (sortR_perm st.runs).length_eq]
      rfl
    · rintro i x σ H1 hx ⟨v2, rfl, s1, e1⟩
      obtain ⟨ra, hra, rfl⟩ := get_map hx
      obtain ⟨r, hr', hrr⟩ := pair_get hrs hra
      have hrok : RunOk st.pattern st.count r := hso.runs r (List.mem_of_getElem? hr')
      obtain ⟨rr, y, z, k1, k2, hro, hri⟩ := hrr
      have hp8 := open_le hrok h8
      have hpl := hrok.len
      have hz : sizeLine = 16777216 := sizeLine_eq
      refine ⟨_, rfl, tyL e1, _, rfl, ra, r, rfl, RunAt.same ⟨rr, y, z, k1, k2, hro, hri⟩ s1, by omega, fun H2 l2 s2 n2 e2 => ?_⟩
      refine ⟨_, rfl, T.run_open_ones ((hro.same s1).same s2) ⟨rr.o, _, rfl, .inl (SqL.lst (s2 _ _ (s1 _ _ hri.op))), by show 1 ≤ sizeLine; decide, fun l3 n3 => ?_⟩⟩
      have s3 : Same H2 (upd H2 l3 (.lst [.int (((r.open_.map fun t => I (t + 1)).length : Nat) : Int)])) := same_new (Same.refl H2) n3 _
      refine ⟨l2, l3, _, _, rfl, rfl, s3 _ _ e2, upd_same, ?_, fun l4 n4 => ?_⟩
      · rw [List.length_map, pathTold_len]
        show _ + 1 ≤ sizeLine
        omega
      have s4 : ∀ o, Same (upd H2 l3 (.lst [.int (((r.open_.map fun t => I (t + 1)).length : Nat) : Int)])) (upd (upd H2 l3 (.lst [.int (((r.open_.map fun t => I (t + 1)).length : Nat) : Int)])) l4 o) := fun o => same_new (Same.refl _) n4 o
      refine ⟨_, rfl, T.run_open_ones ((((hro.same s1).same s2).same s3).same (s4 _)) ⟨l4, rr.o, _, _, rfl, rfl, upd_same, s4 _ _ _ (s3 _ _ (s2 _ _ (s1 _ _ hri.op))), ?_, fun l5 n5 => ?_⟩⟩
      · rw [List.length_append, List.length_map, List.length_map, pathTold_len]
        show _ + 1 + r.open_.length ≤ sizeLine
        omega
      have eall : (Hs10.pathTold r.path).map I ++ [.int (((r.open_.map fun t => I (t + 1)).length : Nat) : Int)] ++ r.open_.map (fun t => I (t + 1)) = (runTold r).map I := by
        unfold runTold
        rw [List.map_append, List.map_cons, List.map_map, List.append_assoc, List.length_map]
        rfl
      rw [eall]
      have s5 := ((s2.trans s3).trans (s4 (.lst ((Hs10.pathTold r.path).map I ++ [.int (((r.open_.map fun t => I (t + 1)).length : Nat) : Int)])))).trans (same_new (Same.refl _) n5 (.lst ((runTold r).map I)))
      refine ⟨l, l5, _, _, rfl, rfl, s5 _ _ e1, upd_same, ?_, _, rfl, same_new (s1.trans s5) nl _, ?_⟩
      · rw [List.length_map, List.length_map, List.length_cons]
        have g1 := runTold_len hrok h8 hcnt
        have g2 := flat_len runTold 20010 ((sortR st.runs).take i) fun x hx => runTold_len (hso.runs x (List.mem_of_mem_take hx)) h8 hcnt
        rw [List.length_take] at g2
        have g3 : i < (sortR st.runs).length := (List.getElem?_eq_some_iff.mp hr').1
        rw [Nat.min_eq_left (Nat.le_of_lt g3)] at g2
        have g4 : 20010 * i ≤ 20010 * 299 := Nat.mul_le_mul_left _ (by omega)
        omega
      · rw [upd_same, take_next hr', List.flatMap_append, List.flatMap_cons, List.flatMap_nil, List.append_nil, ← List.map_append]
        rfl
    · rintro σ H1 ⟨v2, rfl, s1, e1⟩
      rw [List.length_map, pair_len hrs, List.take_length] at e1
      exact ⟨_, rfl, q H1 l s1 nl e1⟩
/-! ### counts -/
def spCounts (c : Cs) : Sp := fun vs H Q _ => ∃ (a : Addr) (s : Hs10.St) (k : Sk), vs = [.ref a] ∧ DeskIn c H a s k ∧ ∀ H' l, Same H H' → H l = none → H' l = some (.lst ([s.count, s.told].map I)) → Q (.ref l) H'
abbrev sCounts : Stmt := inClass (top 57) 5
theorem scCounts : FnScope ["self"] ["self"] (defScope sCounts) := ⟨rfl, rfl, rfl, by decide +kernel, rfl, by decide +kernel, by decide +kernel⟩
theorem ok_counts {f : Addr} {fd : FuncData} (F : Fun K "counts" "Desk.counts" sCounts f fd) (T : Txt K c) : FnOk P w K mg base CX0 1 f fd ["self"] (spCounts c) := by
  refine F.ok scCounts ?_ ?_
  · rintro vs H Q E ⟨a, s, k, rfl, _⟩
    rfl
  · intro cdv A outer s H vs Q E hr h
    refine ⟨_, pss_one (ps_ret (pe_lst (pa_cons (pe_fld (pv 0) rfl) (pa_cons (pe_fld (pv 0) rfl) pa_nil)))), ?_⟩
    obtain ⟨a, st, k, rfl, ⟨sA, kA, rA, b, as, hd, hst, hk, hb, hr0, hrs⟩, q⟩ := h
    exact ⟨_, rfl, T.desk_came hd ⟨_, rfl, T.desk_many_told hd ⟨by show 2 ≤ sizeLine; decide, fun l nl => q _ l (same_new (Same.refl H) nl _) nl upd_same⟩⟩⟩
/-! ### earliest -/
def spFirst (c : Cs) : Sp := fun vs H Q _ => ∃ (a : Addr) (s : Hs10.St) (k : Sk), vs = [.ref a] ∧ DeskIn c H a s k ∧ StOk s ∧ ∀ H' l, Same H H' → H l = none → H' l = some (.lst ([(s.runs.map fun r => Hs10.first r.path).foldl min (s.count + 1)].map I)) → Q (.ref l) H'
abbrev sFirst : Stmt := inClass (top 57) 6
theorem scFirst : FnScope ["self", "run"] ["self"] (defScope sFirst) := ⟨rfl, rfl, rfl, by decide +kernel, rfl, by decide +kernel, by decide +kernel⟩
theorem ok_first {f f1 : Addr} {fd fd1 : FuncData} (F : Fun K "earliest" "Desk.earliest" sFirst f fd) (T : Txt K c) (M1 : Mt K c.cR "begin" "Run.begin" sBegin ["self"] f1 fd1) (G1 : FnOk P w K mg base CX0 1 f1 fd1 ["self"] (spBegin c)) (mMin : mg "min" = none) : FnOk P w K mg base CX0 2 f fd ["self"] (spFirst c) := by
  refine F.ok scFirst ?_ ?_
  · rintro vs H Q E ⟨a, s, k, rfl, _⟩
    rfl
  · intro cdv A outer s H vs Q E hr h
    refine ⟨_, pss_one (ps_ret (pe_lst (pa_cons (pe_callBK (cr_minD rfl) (by rfl) mMin (by decide +kernel) (pa_cons (pe_lc (own := [("run", 1)]) (g := gName 1) (tt := tYes) (te := tMeth c.cR "begin" (spBegin c) [] E0 (tVar 1) tNil) rfl scFirst.nd (pi_list (pe_fld (pv 0) rfl)) (blkOk_by (N := ["self", "run"]) (sc := defScope sFirst) (by decide +kernel)) (fun _ _ _ _ _ => pg_name (i := 1) scFirst.nd rfl (Or.inl rfl)) (fun _ _ _ _ _ => pts_nil) (fun _ _ _ _ _ => pe_meth0 (pv 1) T.clRun M1.m G1 hr M1.b .nil pass0)) pa_nil) (pk_cons (pe_op op_add (pe_fld (pv 0) rfl) pe_int) pk_nil)) pa_nil))), ?_⟩
    obtain ⟨a, st, k, rfl, ⟨sA, kA, rA, b, as, hd, hst, hk, hb, hr0, hrs⟩, hok, q⟩ := h
    have hso := hok.srt
    have hlen : (sortR st.runs).length ≤ 300 := hso.few
    refine ⟨_, rfl, T.desk_kept hd ⟨rA, rfl, ⟨_, SqL.lst hr0⟩, fun D nD => ?_⟩⟩
    refine lc_pure (as.zip (sortR st.runs)) (fun p => V.ref p.1) (fun _ => true) (fun p => I (Hs10.first p.2.path)) nD ?_ ?_ (fun y hy H1 s1 Y N hY hN => ⟨rfl, ?_⟩) (fun H1 s1 eD => ?_)
    · rw [← zip_refs hrs]
      exact SqL.lst hr0
    · rw [zip_len hrs]
      have : sizeLine = 16777216 := sizeLine_eq
      omega
    · obtain ⟨rr, y0, z, k1, k2, ⟨dx, hro⟩, hri⟩ := (zip_has hrs y hy).same s1
      have q' := hY H1 (Same.refl _) rfl
      rw [first_of hri.hd] at q'
      exact ⟨_, rfl, y.1, dx, _, rfl, hro, fsRun_no_begin _, y.1, rr, _, rfl, ⟨dx, hro⟩, hri.first, q'⟩
    · rw [filter_true, zip_snd (fun r => I (Hs10.first r.path)) hrs] at eD
      have fin : ∀ m : Nat, (st.runs.map fun r => Hs10.first r.path).foldl min (st.count + 1) = m → ∀ l, H1 l = none → Q (.ref l) (upd H1 l (.lst [I m])) := fun m hm l nl => by
        have q' := q (upd H1 l (.lst [I m])) l (same_new s1 (s1.free nl) _) (s1.free nl)
        rw [hm] at q'
        exact q' upd_same
      have ec : (st.count : Int) + 1 = ((st.count + 1 : Nat) : Int) := by omega
      refine ⟨_, rfl, T.desk_came (hd.same s1) ⟨_, _, rfl, rfl, D, (sortR st.runs).map (fun r => ((Hs10.first r.path : Nat) : Int)), _, rfl, rfl, ?_, fun hnil => ?_, fun m hm hmin => ?_⟩⟩
      · rw [List.map_map]
        exact SqL.lst eD
      · refine ⟨by show 1 ≤ sizeLine; decide, fun l nl => ?_⟩
        show Q (V.ref l) (upd H1 l (.lst [V.int ((st.count : Int) + 1)]))
        rw [ec]
        refine fin (st.count + 1) ?_ l nl
        have h0 : st.runs = [] := by
          have h1 := (sortR_perm st.runs).length_eq
          rw [List.map_eq_nil_iff.mp hnil] at h1
          exact List.eq_nil_of_length_eq_zero h1.symm
        rw [h0]
        rfl
      · obtain ⟨r, hr', rfl⟩ := List.mem_map.mp hm
        refine ⟨by show 1 ≤ sizeLine; decide, fun l nl => fin (Hs10.first r.path) ?_ l nl⟩
        refine first_is (l' := (sortR st.runs).map fun r => Hs10.first r.path) ((sortR_perm st.runs).map _) (List.mem_map.mpr ⟨r, hr', rfl⟩) (fun y hy => ?_) ?_
        · obtain ⟨r2, hr2, rfl⟩ := List.mem_map.mp hy
          have := hmin _ (List.mem_map.mpr ⟨r2, hr2, rfl⟩)
          omega
        · have := first_le (hso.runs r hr')
          exact Nat.le_succ_of_le this
end
end G

/-! ## PRd12 -/
/-! Desk.__init__, Desk.pattern. -/
namespace G
open PySem PySem.Spec PyProof.Rows L2
/-- [a new object for each of ys], told by F -/
theorem lc_makeG {α β : Type} {K : PySem.W.Frag} {a : Addr} {g : TG} {tt : TT} {te : TE} {vs : List Nat} {σ : L2.St} {H1 G1 : Hp} {D : Addr} {Qd : Hp → Prop} (F : Hp → Addr → β → Prop) (mono : ∀ H H' a b, F H a b → Same H H' → F H' a b) (ys : List α) (f : α → V) (res : α → β) (s0 : Same G1 H1) (hD : H1 D = none) (hl : SqL K H1 a (ys.map f)) (hz : ys.length < sizeLine)
    (hs : ∀ y ∈ ys, ∀ H G, Fr H1 G1 H G → ∀ (Y : V → Hp → Prop) (N : Hp → Prop), (∀ H' G' x, Fr H G H' G' → F G' x (res y) → Y (.ref x) H') →
      g (f y) (wipe σ vs) H fun σ2 H2 => wipe σ2 vs = wipe σ vs ∧ tt σ2 H2 fun b H3 => if b = true then te σ2 H3 Y else N H3)
    (hd : ∀ H G as, Fr H1 G1 H G → G D = none → H D = some (.lst (as.map V.ref)) → Paired (F G) as (ys.map res) → Qd H) : LcW K a g tt te vs σ H1 D Qd := by
  refine lc_list (xs := ys.map f) (fun i H => ∃ G as, Fr H1 G1 H G ∧ G D = none ∧ H D = some (.lst (as.map V.ref)) ∧ Paired (F G) as ((ys.take i).map res)) ⟨G1, [], (Fr.refl s0).only hD _, s0.free hD, upd_same, .nil⟩ (fun i H _ ⟨_, _, p, _⟩ => p.all.seq hl) ?_ ?_
  · rintro i x H hx ⟨G, as, fr, n1, e1, r1⟩
    obtain ⟨y, hy, rfl⟩ := get_map hx
    have hm : y ∈ ys := List.mem_of_getElem? hy
    refine hs y hm H G fr _ _ (fun H' G' x fr' rx => ?_)
    have n2 : G' D = none := fr'.stay e1 n1
    refine ⟨_, fr'.keep e1, ?_, G', as ++ [x], (fr.trans fr').poke hD n2 _, n2, by rw [upd_same, List.map_append]; rfl, ?_⟩
    · have h1 := pair_len r1
      rw [List.length_map, h1, List.length_map, List.length_take]
      omega
    · rw [take_next hy, List.map_append]
      exact pair_snoc rx (pair_mono r1 fun _ _ z => mono _ _ _ _ z fr'.up)
  · rintro H ⟨G, as, fr, n1, e1, r1⟩
    rw [List.length_map, List.take_length] at r1
    exact hd H G as fr n1 e1 r1
theorem put_stages (d : DeskR) (v : Addr) : putF "stages" (.ref v) (fsDesk d) = fsDesk { d with s := v } := pf_hit
theorem put_limit (d : DeskR) (v : Nat) : putF "limit" (I v) (fsDesk d) = fsDesk { d with limit := v } := ((pf_go (by decide +kernel)).trans (congrArg _ pf_hit))
theorem put_skip (d : DeskR) (v : Addr) : putF "skip" (.ref v) (fsDesk d) = fsDesk { d with k := v } := ((pf_go (by decide +kernel)).trans (congrArg _ ((pf_go (by decide +kernel)).trans (congrArg _ pf_hit))))
theorem put_kept (d : DeskR) (v : Addr) : putF "kept" (.ref v) (fsDesk d) = fsDesk { d with r := v } := ((pf_go (by decide +kernel)).trans (congrArg _ ((pf_go (by decide +kernel)).trans (congrArg _ ((pf_go (by decide +kernel)).trans (congrArg _ pf_hit))))))
theorem put_came (d : DeskR) (v : Nat) : putF "came" (I v) (fsDesk d) = fsDesk { d with came := v } := ((pf_go (by decide +kernel)).trans (congrArg _ ((pf_go (by decide +kernel)).trans (congrArg _ ((pf_go (by decide +kernel)).trans (congrArg _ ((pf_go (by decide +kernel)).trans (congrArg _ pf_hit))))))))
theorem put_now (d : DeskR) (v : Nat) : putF "now" (I v) (fsDesk d) = fsDesk { d with now := v } := ((pf_go (by decide +kernel)).trans (congrArg _ ((pf_go (by decide +kernel)).trans (congrArg _ ((pf_go (by decide +kernel)).trans (congrArg _ ((pf_go (by decide +kernel)).trans (congrArg _ ((pf_go (by decide +kernel)).trans (congrArg _ pf_hit))))))))))
theorem put_many_told (d : DeskR) (v : Nat) : putF "many_told" (I v) (fsDesk d) = fsDesk { d with told := v } := ((pf_go (by decide +kernel)).trans (congrArg _ ((pf_go (by decide +kernel)).trans (congrArg _ ((pf_go (by decide +kernel)).trans (congrArg _ ((pf_go (by decide +kernel)).trans (congrArg _ ((pf_go (by decide +kernel)).trans (congrArg _ ((pf_go (by decide +kernel)).trans (congrArg _ pf_hit))))))))))))
theorem new_obj {H G : Hp} (s : Same G H) {x dx : Addr} (nx : H x = none) (nd : H dx = none) (ne : dx ≠ x) (C : Addr) (fs : List (Str × V)) : ∃ G2, Fr H G (upd (upd H dx (.own x)) x (.ins C dx fs)) G2 ∧ G2 x = some (.ins C dx fs) :=
  ⟨_, ((Fr.refl s).new nd (.own x)).new (p := x) (by rw [upd_ne (Ne.symm ne)]; exact nx) (.ins C dx fs), upd_same⟩
theorem none_upd {H : Hp} {x d : Addr} {o u : HO} (h : upd H x o d = none) : upd H x u d = none := by
  have hne : d ≠ x := Ne.symm (ne_of_none upd_same h)
  rw [upd_ne hne] at h ⊢
  exact h
theorem new_at {H G : Hp} (s : Same G H) {l : Addr} (nl : H l = none) (o : HO) : ∃ G2, Fr H G (upd H l o) G2 ∧ G2 l = some o := ⟨_, (Fr.refl s).new nl o, upd_same⟩
/-- at work: what is hidden by Z is done with; the object o at p is being changed -/
structure Wk (Z : Addr → Prop) (H : Hp) (p : Addr) (o : HO) (H1 G1 : Hp) : Prop where
  fr : Fr (hid Z H) (fun _ => none) H1 G1
  here : H1 p = some o
  no : G1 p = none
theorem Wk.start {Z : Addr → Prop} {H : Hp} {p : Addr} {o : HO} (h : H p = some o) : Wk Z H p o H (fun _ => none) := ⟨Fr.start (fun _ _ e => by cases e) fun _ _ => rfl, h, rfl⟩
theorem Wk.step {Z : Addr → Prop} {H H1 G1 H2 G2 : Hp} {p : Addr} {o : HO} (k : Wk Z H p o H1 G1) (f : Fr H1 G1 H2 G2) : Wk Z H p o H2 G2 := ⟨k.fr.trans f, f.keep k.here, f.stay k.here k.no⟩
theorem Wk.put {Z : Addr → Prop} {H H1 G1 : Hp} {p : Addr} {o : HO} (k : Wk Z H p o H1 G1) (hz : Z p) (u : HO) : Wk Z H p u (upd H1 p u) G1 := ⟨k.fr.poke (hid_yes hz) k.no u, upd_same, k.no⟩
/-- the end: the changed object is ours again -/
theorem Wk.done {Z : Addr → Prop} {H H1 G1 : Hp} {p : Addr} {o : HO} (k : Wk Z H p o H1 G1) (hz : Z p) : Same (upd G1 p o) H1 ∧ (∀ b u, H b = some u → ¬ Z b → H1 b = some u ∧ (upd G1 p o) b = none) ∧ Same G1 (upd G1 p o) := by
  have f := k.fr.add (hid_yes hz) k.here
  refine ⟨f.sub, fun b u hb hn => ?_, same_new (Same.refl _) k.no _⟩
  have hb' : hid Z H b = some u := by
    rw [hid_no hn]
    exact hb
  exact ⟨f.all _ _ hb', f.out b (by rw [hb']; simp) rfl⟩
section
variable {P : Program} {w : World} {K : PySem.W.Frag} {mg : Str → Option Value} {base : Heap} {c : Cs} {C fI : Addr}
theorem fresh_desk {G1 : Hp} {p dx sA kA rA b : Addr} {pat : Hs10.Pattern} {way pivot : Nat} (np : G1 p = none) (hs : StagesAt c G1 sA pat.stages) (hk : SkipO c G1 kA ⟨way, pivot, 0, b⟩) (hb : G1 b = some (.dK [])) (hr : G1 rA = some (.lst [])) :
    DeskAt c (upd G1 p (.ins c.cD dx (fsDesk ⟨sA, pat.within, kA, rA, 0, 0, 0⟩))) p (Hs10.fresh pat) (Sk.new way pivot) := by
  exact ⟨G1, dx, sA, kA, rA, b, [], np, rfl, hs, hk, hb, hr, .nil⟩
/-! ### __init__ -/
def spDeskI (c : Cs) : Sp := fun vs H Q _ => ∃ (p dx : Addr), vs = [.ref p] ∧ H p = some (.ins c.cD dx []) ∧ ∀ H' G', Same G' H' → (∀ b o, H b = some o → b ≠ p → H' b = some o ∧ G' b = none) → DeskAt c G' p Hs10.init (Sk.new 0 0) → Q .non H'
abbrev sDeskI : Stmt := inClass (top 57) 0
theorem scDeskI : FnScope ["self"] ["self"] (defScope sDeskI) := ⟨rfl, rfl, rfl, by decide +kernel, rfl, by decide +kernel, by decide +kernel⟩
theorem ok_deskI {f fS fK : Addr} {fd fdS fdK : FuncData} (F : Fun K "__init__" "Desk.__init__" sDeskI f fd) (T : Txt K c) (MS : Mk K c.cS fS) (gS : mg "Stage" = some (.ref c.cS)) (bS : Binds K fdS ["self", "numbers"] []) (GS : FnOk P w K mg base CX0 1 fS fdS ["self", "numbers"] (spStageI c))
    (MK : Mk K c.cK fK) (gK : mg "Skip" = some (.ref c.cK)) (bK : Binds K fdK ["self", "way", "pivot"] []) (GK : FnOk P w K mg base CX0 1 fK fdK ["self", "way", "pivot"] (spSkipI c)) (m0 : CI mg "NEVER" 0) : FnOk P w K mg base CX0 3 f fd ["self"] (spDeskI c) := by
  obtain ⟨t0, m0⟩ := m0
  refine F.ok scDeskI ?_ ?_
  · rintro vs H Q E ⟨p, dx, rfl, _⟩
    rfl
  · intro cdv A outer s H vs Q E hr h
    have hr2 : Room 2 _ := hr
    refine ⟨_, (pss_cons (ps_fld (pv 0) (pe_lst (pa_cons (pe_make MS GS hr2 rfl gS bS .nil pass0 (pa_cons (pe_lst (pa_cons pe_int (pa_cons pe_int (pa_cons pe_int (pa_cons pe_int (pa_cons pe_int (pa_cons pe_int pa_nil))))))) pa_nil)) (pa_cons (pe_make MS GS hr2 rfl gS bS .nil pass0 (pa_cons (pe_lst (pa_cons pe_int (pa_cons pe_int (pa_cons pe_int (pa_cons pe_int (pa_cons pe_int (pa_cons pe_int pa_nil))))))) pa_nil)) pa_nil))) rfl)
      (pss_cons (ps_fld (pv 0) pe_int rfl)
      (pss_cons (ps_fld (pv 0) (pe_make MK GK hr2 rfl gK bK .nil pass0 (pa_cons (pe_glob (v := .int 0) rfl m0 ⟨_, rfl⟩) (pa_cons pe_int pa_nil))) rfl)
      (pss_cons (ps_fld (pv 0) (pe_lst pa_nil) rfl)
      (pss_cons (ps_fld (pv 0) pe_int rfl)
      (pss_cons (ps_fld (pv 0) pe_int rfl)
      (pss_one (ps_fld (pv 0) pe_int rfl)))))))), ?_⟩
    obtain ⟨p, dx, rfl, hp, q⟩ := h
    have k0 : Wk (· = p) H p _ H (fun _ => none) := Wk.start hp
    -- the first stage
    refine ⟨by show 6 ≤ sizeLine; decide, fun l1 n1 => ?_⟩
    intro x1 d1 nx1 nd1 ne1
    refine ⟨x1, d1, l1, ⟨0, 0, 0, 1, 0, 0⟩, rfl, upd_same, by rw [upd_ne (ne_of_none upd_same nx1), upd_ne (ne_of_none upd_same nd1)]; exact upd_same, rfl, ?_⟩
    rw [upd_upd]
    have k1 := k0.step ((Fr.refl k0.fr.sub).only n1 (.lst [.int 0, .int 0, .int 0, .int 1, .int 0, .int 0]))
    obtain ⟨G1, f1, a1⟩ := new_obj k1.fr.sub nx1 nd1 ne1 c.cS (fsStage ⟨0, 0, 0, 1, 0, 0⟩)
    have k2 := k1.step f1
    -- the second
    refine ⟨by show 6 ≤ sizeLine; decide, fun l2 n2 => ?_⟩
    intro x2 d2 nx2 nd2 ne2
    refine ⟨x2, d2, l2, ⟨0, 1, 0, 2, 0, 0⟩, rfl, upd_same, by rw [upd_ne (ne_of_none upd_same nx2), upd_ne (ne_of_none upd_same nd2)]; exact upd_same, rfl, ?_⟩
    rw [upd_upd]
    have f2 : Fr _ G1 _ G1 := (Fr.refl k2.fr.sub).only n2 (.lst [.int 0, .int 1, .int 0, .int 2, .int 0, .int 0])
    have k3 := k2.step f2
    obtain ⟨G2, f3, a2⟩ := new_obj k3.fr.sub nx2 nd2 ne2 c.cS (fsStage ⟨0, 1, 0, 2, 0, 0⟩)
    have k4 := k3.step f3
    refine ⟨by show 2 ≤ sizeLine; decide, fun ls nls => ?_⟩
    obtain ⟨G3, f4, a3⟩ := new_at k4.fr.sub nls (.lst [.ref x1, .ref x2])
    have k5 := k4.step f4
    have hst : StagesAt c G3 ls Hs10.init.pattern.stages := ⟨[x1, x2], a3, .cons ⟨d1, f4.up _ _ (f3.up _ _ a1)⟩ (.cons ⟨d2, f4.up _ _ a2⟩ .nil)⟩
    refine ⟨_, rfl, p, c.cD, dx, _, rfl, k5.here, T.clDesk, T.nDesk_stages, (by show 0 < 1000; decide), ?_⟩
    rw [show putF "stages" (V.ref ls) ([] : List (Str × V)) = ([("stages", V.ref ls)] : List (Str × V)) from putF_app rfl]
    have k6 := k5.put rfl (.ins c.cD dx ([("stages", V.ref ls)] : List (Str × V)))
    refine ⟨_, rfl, p, c.cD, dx, _, rfl, k6.here, T.clDesk, T.nDesk_limit, (by show 1 < 1000; decide), ?_⟩
    rw [show putF "limit" (V.int 0) ([("stages", V.ref ls)] : List (Str × V)) = ([("stages", V.ref ls), ("limit", V.int 0)] : List (Str × V)) from putF_app ((lk_go (by decide +kernel)).trans rfl)]
    have k7 := k6.put rfl (.ins c.cD dx ([("stages", V.ref ls), ("limit", V.int 0)] : List (Str × V)))
    -- the skip
    intro xk dk nxk ndk nek
    refine ⟨xk, dk, 0, 0, rfl, upd_same, fun d nd0 => ⟨rfl, ?_⟩⟩
    rw [upd_upd]
    obtain ⟨G4, f5, a4⟩ := new_obj k7.fr.sub nxk ndk nek c.cK (fsSkip ⟨0, 0, 0, d⟩)
    have k8 := k7.step f5
    have nd1' := none_upd (u := .ins c.cK dk (fsSkip ⟨0, 0, 0, d⟩)) nd0
    obtain ⟨G5, f6, a5⟩ := new_at k8.fr.sub nd1' (.dK [])
    have k9 := k8.step f6
    refine ⟨_, rfl, p, c.cD, dx, _, rfl, k9.here, T.clDesk, T.nDesk_skip, (by show 2 < 1000; decide), ?_⟩
    rw [show putF "skip" (V.ref xk) ([("stages", V.ref ls), ("limit", V.int 0)] : List (Str × V)) = ([("stages", V.ref ls), ("limit", V.int 0), ("skip", V.ref xk)] : List (Str × V)) from putF_app ((lk_go (by decide +kernel)).trans ((lk_go (by decide +kernel)).trans rfl))]
    have k10 := k9.put rfl (.ins c.cD dx ([("stages", V.ref ls), ("limit", V.int 0), ("skip", V.ref xk)] : List (Str × V)))
    refine ⟨Nat.zero_le _, fun rA nrA => ?_⟩
    obtain ⟨G6, f7, a6⟩ := new_at k10.fr.sub nrA (.lst [])
    have k11 := k10.step f7
    refine ⟨_, rfl, p, c.cD, dx, _, rfl, k11.here, T.clDesk, T.nDesk_kept, (by show 3 < 1000; decide), ?_⟩
    rw [show putF "kept" (V.ref rA) ([("stages", V.ref ls), ("limit", V.int 0), ("skip", V.ref xk)] : List (Str × V)) = ([("stages", V.ref ls), ("limit", V.int 0), ("skip", V.ref xk), ("kept", V.ref rA)] : List (Str × V)) from putF_app ((lk_go (by decide +kernel)).trans ((lk_go (by decide +kernel)).trans ((lk_go (by decide +kernel)).trans rfl)))]
    have k12 := k11.put rfl (.ins c.cD dx ([("stages", V.ref ls), ("limit", V.int 0), ("skip", V.ref xk), ("kept", V.ref rA)] : List (Str × V)))
    refine ⟨_, rfl, p, c.cD, dx, _, rfl, k12.here, T.clDesk, T.nDesk_came, (by show 4 < 1000; decide), ?_⟩
    rw [show putF "came" (V.int 0) ([("stages", V.ref ls), ("limit", V.int 0), ("skip", V.ref xk), ("kept", V.ref rA)] : List (Str × V)) = ([("stages", V.ref ls), ("limit", V.int 0), ("skip", V.ref xk), ("kept", V.ref rA), ("came", V.int 0)] : List (Str × V)) from putF_app ((lk_go (by decide +kernel)).trans ((lk_go (by decide +kernel)).trans ((lk_go (by decide +kernel)).trans ((lk_go (by decide +kernel)).trans rfl))))]
    have k13 := k12.put rfl (.ins c.cD dx ([("stages", V.ref ls), ("limit", V.int 0), ("skip", V.ref xk), ("kept", V.ref rA), ("came", V.int 0)] : List (Str × V)))
    refine ⟨_, rfl, p, c.cD, dx, _, rfl, k13.here, T.clDesk, T.nDesk_now, (by show 5 < 1000; decide), ?_⟩
    rw [show putF "now" (V.int 0) ([("stages", V.ref ls), ("limit", V.int 0), ("skip", V.ref xk), ("kept", V.ref rA), ("came", V.int 0)] : List (Str × V)) = ([("stages", V.ref ls), ("limit", V.int 0), ("skip", V.ref xk), ("kept", V.ref rA), ("came", V.int 0), ("now", V.int 0)] : List (Str × V)) from putF_app ((lk_go (by decide +kernel)).trans ((lk_go (by decide +kernel)).trans ((lk_go (by decide +kernel)).trans ((lk_go (by decide +kernel)).trans ((lk_go (by decide +kernel)).trans rfl)))))]
    have k14 := k13.put rfl (.ins c.cD dx ([("stages", V.ref ls), ("limit", V.int 0), ("skip", V.ref xk), ("kept", V.ref rA), ("came", V.int 0), ("now", V.int 0)] : List (Str × V)))
    refine ⟨_, rfl, p, c.cD, dx, _, rfl, k14.here, T.clDesk, T.nDesk_many_told, (by show 6 < 1000; decide), ?_⟩
    rw [show putF "many_told" (V.int 0) ([("stages", V.ref ls), ("limit", V.int 0), ("skip", V.ref xk), ("kept", V.ref rA), ("came", V.int 0), ("now", V.int 0)] : List (Str × V)) = ([("stages", V.ref ls), ("limit", V.int 0), ("skip", V.ref xk), ("kept", V.ref rA), ("came", V.int 0), ("now", V.int 0), ("many_told", V.int 0)] : List (Str × V)) from putF_app ((lk_go (by decide +kernel)).trans ((lk_go (by decide +kernel)).trans ((lk_go (by decide +kernel)).trans ((lk_go (by decide +kernel)).trans ((lk_go (by decide +kernel)).trans ((lk_go (by decide +kernel)).trans rfl))))))]
    have k15 := k14.put rfl (.ins c.cD dx ([("stages", V.ref ls), ("limit", V.int 0), ("skip", V.ref xk), ("kept", V.ref rA), ("came", V.int 0), ("now", V.int 0), ("many_told", V.int 0)] : List (Str × V)))
    obtain ⟨e1, e2, e3⟩ := k15.done rfl
    have up : Same G3 G6 := ((f5.up.trans f6.up).trans f7.up)
    exact q _ _ e1 (fun b o hb hne => e2 b o hb hne) (fresh_desk (pat := Hs10.init.pattern) (way := 0) (pivot := 0) k15.no (hst.same up) ⟨dk, f7.up _ _ (f6.up _ _ a4)⟩ (f7.up _ _ a5) a6)
end
end G

/-! ## PRd13 -/
/-! Desk.pattern. -/
namespace G
open PySem PySem.Spec PyProof.Rows L2
section
variable {P : Program} {w : World} {K : PySem.W.Frag} {mg : Str → Option Value} {base : Heap} {c : Cs} {C fI : Addr}
def spPattern (K : PySem.W.Frag) (c : Cs) (C : Addr) : Sp := fun vs H Q E => ∃ (G : Hp) (a nA : Addr) (s : Hs10.St) (k : Sk) (way pivot limit : Nat) (ns : List Nat), vs = [.ref a, I way, I pivot, I limit, .ref nA] ∧ Same G H ∧ DeskAt c G a s k ∧ SqL K H nA (ns.map I) ∧
  (∀ n, Hs10.patternBad way pivot limit ns = some n → ∀ H' d, Same H H' → H' d = some (.xd [("number", .int n)]) → E (.ref C) (some d) H') ∧
  (Hs10.patternBad way pivot limit ns = none → ∀ H' G' l, Same G' H' → (∀ b o, H b = some o → b ≠ a → H' b = some o ∧ G' b = none) → H l = none → DeskAt c G' a (Hs10.fresh ⟨way, pivot - 1, limit, Hs10.sixes ns⟩) (Sk.new way pivot) → H' l = some (.lst [I (ns.length / 6)]) → Q (.ref l) H')
abbrev sPattern : Stmt := inClass (top 57) 1
theorem scPattern : FnScope ["self", "way", "pivot", "limit", "numbers", "many", "rest", "rows", "row"] ["self", "way", "pivot", "limit", "numbers"] (defScope sPattern) := ⟨rfl, rfl, rfl, by decide +kernel, rfl, by decide +kernel, by decide +kernel⟩
theorem chk1 {ns : List Nat} {way pivot limit : Nat} (h : ns.length % 6 ≠ 0 ∨ ns.length = 0 ∨ 48 < ns.length) : Hs10.patternBad way pivot limit ns = some (-1) := if_pos h
theorem chk2 {ns : List Nat} {way pivot limit : Nat} (h : ¬ (ns.length % 6 ≠ 0 ∨ ns.length = 0 ∨ 48 < ns.length)) : Hs10.patternBad way pivot limit ns = if (Hs10.sixes ns).all Hs10.isStage = false then some (-2)
  else if Hs10.isNot ((Hs10.sixes ns).headD ⟨0, 0, 0, 0, 0, 0⟩) = true ∨ Hs10.isNot ((Hs10.sixes ns).getLastD ⟨0, 0, 0, 0, 0, 0⟩) = true then some (-3)
  else if 3 < way ∨ (way = 3 ∧ (pivot = 0 ∨ ns.length / 6 < pivot)) ∨ (way ≠ 3 ∧ pivot ≠ 0) then some (-4)
  else if 1000000 < limit then some (-5)
  else none := if_neg h
theorem skip_bad {way pivot many : Nat} : skipB way pivot many = false ↔ (3 < way ∨ (way = 3 ∧ (pivot = 0 ∨ many < pivot)) ∨ (way ≠ 3 ∧ pivot ≠ 0)) := by
  unfold skipB
  split
  · rename_i h
    rw [Bool.and_eq_false_iff, decide_eq_false_iff_not, decide_eq_false_iff_not]
    omega
  · rename_i h
    rw [Bool.and_eq_false_iff, decide_eq_false_iff_not, decide_eq_false_iff_not]
    omega
theorem stage_row {F : Addr → Hs10.Stage → Prop} {bs : List Addr} {xs : List Hs10.Stage} (h : Paired F bs xs) (hne : xs ≠ []) : ∃ b x b2 x2, (bs.map V.ref)[0]? = some (V.ref b) ∧ F b x ∧ xs.headD ⟨0, 0, 0, 0, 0, 0⟩ = x ∧ atI (bs.map V.ref) (-1) = some (V.ref b2) ∧ F b2 x2 ∧ xs.getLastD ⟨0, 0, 0, 0, 0, 0⟩ = x2 := by
  have hl := pair_len h
  have hpos : 0 < xs.length := List.length_pos_iff.mpr hne
  obtain ⟨b, hb, hF⟩ := pair_get' h (List.getElem?_eq_getElem (l := xs) (i := 0) hpos)
  obtain ⟨b2, hb2, hF2⟩ := pair_get' h (List.getElem?_eq_getElem (l := xs) (i := xs.length - 1) (by omega))
  refine ⟨b, _, b2, _, by rw [List.getElem?_map, hb]; rfl, hF, ?_, ?_, hF2, ?_⟩
  · cases xs with
    | nil => exact absurd rfl hne
    | cons x r => rfl
  · show (ixN (bs.map V.ref).length (-1)).bind (fun j => (bs.map V.ref)[j]?) = _
    have e1 : ixN (bs.map V.ref).length (-1) = some (xs.length - 1) := by
      unfold ixN
      rw [List.length_map, hl, if_neg (by decide), if_pos (by omega)]
      congr 1
      omega
    rw [e1]
    show (bs.map V.ref)[xs.length - 1]? = _
    rw [List.getElem?_map, hb2]
    rfl
  · rw [← List.getLast_eq_getElem hne]
    cases xs with
    | nil => exact absurd rfl hne
    | cons x r => rfl
set_option maxHeartbeats 8000000 in
theorem ok_pattern {f f1 f2 f3 fW fS fK : Addr} {fd fd1 fd2 fd3 fdW fdS fdK : FuncData} (F : Fun K "pattern" "Desk.pattern" sPattern f fd) (T : Txt K c) (DW : Df K mg "want" sWant ["is_so", "number"] fW fdW) (GW : FnOk P w K mg base (L2.CX P w) 3 fW fdW ["is_so", "number"] (spWant C))
    (D1 : Df K mg "rows_of" sRows ["numbers"] f1 fd1) (G1 : FnOk P w K mg base CX0 1 f1 fd1 ["numbers"] (spRows K)) (D2 : Df K mg "is_stage" sIsStage ["row"] f2 fd2) (G2 : FnOk P w K mg base CX0 1 f2 fd2 ["row"] (spIsStage c)) (D3 : Df K mg "is_skip" sIsSkip ["way", "pivot", "many"] f3 fd3) (G3 : FnOk P w K mg base CX0 1 f3 fd3 ["way", "pivot", "many"] (spIsSkip c))
    (MS : Mk K c.cS fS) (gS : mg "Stage" = some (.ref c.cS)) (bS : Binds K fdS ["self", "numbers"] []) (GS : FnOk P w K mg base CX0 1 fS fdS ["self", "numbers"] (spStageI c))
    (MK : Mk K c.cK fK) (gK : mg "Skip" = some (.ref c.cK)) (bK : Binds K fdK ["self", "way", "pivot"] []) (GK : FnOk P w K mg base CX0 1 fK fdK ["self", "way", "pivot"] (spSkipI c))
    (m6 : CI mg "NUMBERS_EACH" 6) (m8 : CI mg "MOST_STAGES" 8) (m4 : CI mg "NONE_BETWEEN" 4) (mG : CI mg "GREATEST" 1000000) (w1 : CI mg "WRONG_LENGTH" (-1)) (w2 : CI mg "WRONG_STAGE" (-2)) (w3 : CI mg "WRONG_END" (-3)) (w4 : CI mg "WRONG_SKIP" (-4)) (w5 : CI mg "WRONG_TIME" (-5)) (mLen : mg "len" = none) (mDiv : mg "divmod" = none) (mAll : mg "all" = none) :
    FnOk P w K mg base (L2.CX P w) 4 f fd ["self", "way", "pivot", "limit", "numbers"] (spPattern K c C) := by
  obtain ⟨_, m6⟩ := m6
  obtain ⟨_, m8⟩ := m8
  obtain ⟨_, m4⟩ := m4
  obtain ⟨_, mG⟩ := mG
  obtain ⟨_, w1⟩ := w1
  obtain ⟨_, w2⟩ := w2
  obtain ⟨_, w3⟩ := w3
  obtain ⟨_, w4⟩ := w4
  obtain ⟨_, w5⟩ := w5
  refine F.okX scPattern ?_ ?_
  · rintro vs H Q E ⟨G, a, nA, s, k, way, pivot, limit, ns, rfl, _⟩
    rfl
  · intro cdv A outer s H vs Q E hr h
    have hr1 : Room 1 _ := hr.mono (by decide)
    have hr2 : Room 2 _ := hr.mono (by decide)
    have hrW : Room 3 _ := hr
    refine ⟨_, (pss_cons (ps_asg (pe_callB call_divmod (by rfl) mDiv (by decide +kernel) (pa_cons (pe_callB call_len_seq (by rfl) mLen PySem.boot_len (pa_cons (pv 4) pa_nil)) (pa_cons (pe_glob (v := .int 6) rfl m6 ⟨_, rfl⟩) pa_nil))) (pg_tup rfl (pgs_cons (pg_name (i := 5) scPattern.nd rfl (Or.inl rfl)) (pgs_cons (pg_name (i := 6) scPattern.nd rfl (Or.inl rfl)) pgs_nil))))
      (pss_cons (ps_expr (pe_call GW hrW rfl DW.g DW.F.kp DW.b .nil (passes_call (takes_of (E := E) rfl rfl rfl rfl) (fun _ _ _ _ h => h)) (pa_cons (pe_and (pe_cmpR op_eq (pv 6) pe_int (nomark _)) (pe_one (pe_chain op_le op_le pe_int (pv 5) (pe_glob (v := .int 8) rfl m8 ⟨_, rfl⟩)))) (pa_cons (pe_glob (v := .int (-1)) rfl w1 ⟨_, rfl⟩) pa_nil))))
      (pss_cons (ps_set (i := 7) scPattern.nd rfl (Or.inl rfl) (pe_call G1 hr1 rfl D1.g D1.F.kp D1.b .nil pass0 (pa_cons (pv 4) pa_nil)))
      (pss_cons (ps_expr (pe_call GW hrW rfl DW.g DW.F.kp DW.b .nil (passes_call (takes_of (E := E) rfl rfl rfl rfl) (fun _ _ _ _ h => h)) (pa_cons (pe_callB (cr_all rfl) (by rfl) mAll (by decide +kernel) (pa_cons (pe_lc (own := [("row", 8)]) (g := gName 8) (tt := tYes) (te := tCall (spIsStage c) [] E0 (tCons (tVar 8) tNil)) rfl scPattern.nd (pi_list (pv 7)) (blkOk_by (N := ["self", "way", "pivot", "limit", "numbers", "many", "rest", "rows", "row"]) (sc := defScope sPattern) (by decide +kernel)) (fun _ _ _ _ _ => pg_name (i := 8) scPattern.nd rfl (Or.inl rfl)) (fun _ _ _ _ _ => pts_nil) (fun _ _ _ _ _ => (pe_call G2 hr1 rfl D2.g D2.F.kp D2.b .nil pass0 (pa_cons (pv 8) pa_nil)))) pa_nil)) (pa_cons (pe_glob (v := .int (-2)) rfl w2 ⟨_, rfl⟩) pa_nil))))
      (pss_cons (ps_expr (pe_call GW hrW rfl DW.g DW.F.kp DW.b .nil (passes_call (takes_of (E := E) rfl rfl rfl rfl) (fun _ _ _ _ h => h)) (pa_cons (pe_and (pe_cmpR op_ne (pe_ix ix_list (pe_ix ix_list (pv 7) pe_int (fun _ _ => rfl)) pe_int (fun _ _ => rfl)) (pe_glob (v := .int 4) rfl m4 ⟨_, rfl⟩) (nomark _)) (pe_one (pe_cmpR op_ne (pe_ix ix_list (pe_ix ix_list (pv 7) (pe_un un_neg pe_int) (fun _ _ => rfl)) pe_int (fun _ _ => rfl)) (pe_glob (v := .int 4) rfl m4 ⟨_, rfl⟩) (nomark _)))) (pa_cons (pe_glob (v := .int (-3)) rfl w3 ⟨_, rfl⟩) pa_nil))))
      (pss_cons (ps_expr (pe_call GW hrW rfl DW.g DW.F.kp DW.b .nil (passes_call (takes_of (E := E) rfl rfl rfl rfl) (fun _ _ _ _ h => h)) (pa_cons (pe_call G3 hr1 rfl D3.g D3.F.kp D3.b .nil pass0 (pa_cons (pv 1) (pa_cons (pv 2) (pa_cons (pv 5) pa_nil)))) (pa_cons (pe_glob (v := .int (-4)) rfl w4 ⟨_, rfl⟩) pa_nil))))
      (pss_cons (ps_expr (pe_call GW hrW rfl DW.g DW.F.kp DW.b .nil (passes_call (takes_of (E := E) rfl rfl rfl rfl) (fun _ _ _ _ h => h)) (pa_cons (pe_cmpR op_le (pv 3) (pe_glob (v := .int 1000000) rfl mG ⟨_, rfl⟩) (nomark _)) (pa_cons (pe_glob (v := .int (-5)) rfl w5 ⟨_, rfl⟩) pa_nil))))
      (pss_cons (ps_fld (pv 0) (pe_lc (own := [("row", 8)]) (g := gName 8) (tt := tYes) (te := tMake c.cS (spStageI c) [] E0 (tCons (tVar 8) tNil)) rfl scPattern.nd (pi_list (pv 7)) (blkOk_by (N := ["self", "way", "pivot", "limit", "numbers", "many", "rest", "rows", "row"]) (sc := defScope sPattern) (by decide +kernel)) (fun _ _ _ _ _ => pg_name (i := 8) scPattern.nd rfl (Or.inl rfl)) (fun _ _ _ _ _ => pts_nil) (fun _ _ _ _ _ => pe_make MS GS hr2 rfl gS bS .nil pass0 (pa_cons (pv 8) pa_nil))) rfl)
      (pss_cons (ps_fld (pv 0) (pv 3) rfl)
      (pss_cons (ps_fld (pv 0) (pe_make MK GK hr2 rfl gK bK .nil pass0 (pa_cons (pv 1) (pa_cons (pv 2) pa_nil))) rfl)
      (pss_cons (ps_fld (pv 0) (pe_lst pa_nil) rfl)
      (pss_cons (ps_fld (pv 0) pe_int rfl)
      (pss_cons (ps_fld (pv 0) pe_int rfl)
      (pss_cons (ps_fld (pv 0) pe_int rfl)
      (pss_one (ps_ret (pe_lst (pa_cons (pv 5) pa_nil)))))))))))))))))), ?_⟩
    obtain ⟨G, a, nA, st, k, way, pivot, limit, ns, rfl, s0, hdesk, hn, qB, qG⟩ := h
    obtain ⟨sA, kA, rA, b0, as, ⟨dx, hd⟩, hst, hk, hb, hr0, hrs⟩ := hdesk.inn
    have em : (((ns.map I).length : Nat) : Int) / 6 = ((ns.length / 6 : Nat) : Int) := by
      rw [List.length_map]
      omega
    have er : (((ns.map I).length : Nat) : Int) % 6 = ((ns.length % 6 : Nat) : Int) := by
      rw [List.length_map]
      omega
    refine ⟨_, rfl, nA, _, rfl, .inl hn, _, _, rfl, ⟨by decide, by decide⟩, fun tp ntp => ⟨tp, _, rfl, .inl (.inl upd_same), rfl, _, _, rfl, _, _, rfl, rfl, ?_⟩⟩
    have s1 : Same H (upd H tp (.tup [.int ((((ns.map I).length : Nat) : Int) / 6), .int ((((ns.map I).length : Nat) : Int) % 6)])) := same_new (Same.refl H) ntp _
    generalize hH1 : upd H tp (.tup [.int ((((ns.map I).length : Nat) : Int) / 6), .int ((((ns.map I).length : Nat) : Int) % 6)]) = H1 at s1
    refine ⟨_, rfl, rfl, _, rfl, ifd (c := ns.length % 6 = 0) (by rw [er]; exact dE _ 0) (fun h6 => ?_) (fun h6 => ?_)⟩
    rotate_left
    · exact ⟨false, -1, rfl, fun z => (by cases z), fun _ H' d s' _ ed => qB _ (chk1 (.inl h6)) H' d (s1.trans s') ed⟩
    refine ⟨_, rfl, _, _, rfl, rfl, _, rfl, ifd (c := 1 ≤ ns.length / 6) (by rw [em]; exact dLe 1 _) (fun hm1 => ?_) (fun hm1 => ?_)⟩
    rotate_left
    · exact ⟨false, -1, rfl, fun z => (by cases z), fun _ H' d s' _ ed => qB _ (chk1 (.inr (.inl (by omega)))) H' d (s1.trans s') ed⟩
    refine ⟨_, _, rfl, rfl, _, -1, rfl, fun hm8 => ?_, fun hm8 H' d s' _ ed => qB _ (chk1 (.inr (.inr ?_))) H' d (s1.trans s') ed⟩
    rotate_left
    · have hm8' := of_decide_eq_false hm8
      rw [em] at hm8'
      omega
    have hm8' := of_decide_eq_true hm8
    rw [em] at hm8'
    have hl : ns.length = 6 * (ns.length / 6) := by omega
    have c2 := chk2 (way := way) (pivot := pivot) (limit := limit) (ns := ns) (by omega)
    rw [c2] at qB qG
    -- the rows
    refine ⟨_, rfl, nA, ns, ns.length / 6, rfl, s1.seq hn, hl, hm1, by omega, fun H2 rl bs s2 n2 e2 p2 => ?_⟩
    have s02 : Same H H2 := s1.trans s2
    have h6l : (Hs10.sixes ns).length = ns.length / 6 := sixes_len _ ns hl
    refine ⟨_, rfl, rl, rfl, ⟨_, SqL.lst e2⟩, fun D nD => ?_⟩
    refine lc_pure (bs.zip (Hs10.sixes ns)) (fun p => V.ref p.1) (fun _ => true) (fun p => V.bl (Hs10.isStage p.2)) nD ?_ ?_ (fun y hy H3 s3 Y N hY hN => ⟨rfl, ?_⟩) (fun H3 s3 eD => ?_)
    · rw [← zip_refs p2]
      exact SqL.lst e2
    · rw [zip_len p2, h6l]
      have : sizeLine = 16777216 := sizeLine_eq
      omega
    · exact ⟨_, rfl, y.1, y.2, rfl, s3 _ _ (zip_has p2 y hy), fun H4 s4 => hY H4 s4 rfl⟩
    have s03 : Same H H3 := s02.trans s3
    have p3 : Paired (fun b x => H3 b = some (.lst (stN x))) bs (Hs10.sixes ns) := pair_mono p2 fun _ _ z => s3 _ _ z
    have e3 : H3 rl = some (.lst (bs.map V.ref)) := s3 _ _ e2
    refine ⟨D, (Hs10.sixes ns).map Hs10.isStage, rfl, ?_, _, -2, rfl, fun ha => ?_, fun ha H' d s' _ ed => ?_⟩
    · rw [filter_true, zip_snd (fun x => V.bl (Hs10.isStage x)) p2] at eD
      rw [List.map_map]
      exact SqL.lst eD
    rotate_left
    · rw [List.all_map] at ha
      have ha : (Hs10.sixes ns).all Hs10.isStage = false := ha
      rw [if_pos ha] at qB
      exact qB _ rfl H' d (s03.trans s') ed
    rw [List.all_map] at ha
    have ha : (Hs10.sixes ns).all Hs10.isStage = true := ha
    rw [if_neg (by rw [ha]; decide)] at qB qG
    -- the ends
    obtain ⟨b1, x1, b2, x2, g1, g2, g3, g4, g5, g6⟩ := stage_row p3 (fun z => by rw [z] at h6l; simp at h6l; omega)
    rw [g3, g6] at qB qG
    have notE : ∀ x : Hs10.Stage, Hs10.isNot x = true ↔ x.sort = 4 := fun x => by
      unfold Hs10.isNot
      simp
    refine ⟨_, rfl, rl, _, _, _, rfl, rfl, SqL.lst e3, atI_nat (j := 0) g1, b1, _, _, _, rfl, rfl, SqL.lst g2, atI_nat (xs := stN x1) (j := 0) (v := I x1.sort) rfl, rfl, _, rfl, ifd (dN x1.sort 4) (fun t1 => ?_) (fun t1 => ?_)⟩
    rotate_left
    · refine ⟨false, -3, rfl, fun z => (by cases z), fun _ H' d s' _ ed => ?_⟩
      rw [if_pos (.inl ((notE x1).mpr (by omega)))] at qB
      exact qB _ rfl H' d (s03.trans s') ed
    refine ⟨_, rfl, _, rfl, rl, _, _, _, rfl, rfl, SqL.lst e3, g4, b2, _, _, _, rfl, rfl, SqL.lst g5, atI_nat (xs := stN x2) (j := 0) (v := I x2.sort) rfl, rfl, _, -3, rfl, fun t2 => ?_, fun t2 H' d s' _ ed => ?_⟩
    rotate_left
    · have t2 : (!decide (V.int (x2.sort : Int) = V.int ((4 : Nat) : Int))) = false := t2
      rw [dN] at t2
      rw [if_pos (.inr ((notE x2).mpr (by have := of_decide_eq_false t2; omega)))] at qB
      exact qB _ rfl H' d (s03.trans s') ed
    have t2 : (!decide (V.int (x2.sort : Int) = V.int ((4 : Nat) : Int))) = true := t2
    rw [dN] at t2
    have t2 := of_decide_eq_true t2
    have nE : ¬ (Hs10.isNot x1 = true ∨ Hs10.isNot x2 = true) := by
      rw [notE, notE]
      omega
    rw [if_neg nE] at qB qG
    -- the skip
    refine ⟨_, rfl, _, rfl, _, rfl, way, pivot, ns.length / 6, by rw [em]; rfl, _, -4, rfl, fun u1 => ?_, fun u1 H' d s' _ ed => ?_⟩
    rotate_left
    · rw [if_pos (skip_bad.mp u1)] at qB
      exact qB _ rfl H' d (s03.trans s') ed
    rw [if_neg (by rw [← skip_bad, u1]; decide)] at qB qG
    -- the time
    refine ⟨_, rfl, _, _, rfl, rfl, _, -5, rfl, fun u2 => ?_, fun u2 H' d s' _ ed => ?_⟩
    rotate_left
    · have u2 : decide ((limit : Int) ≤ ((1000000 : Nat) : Int)) = false := u2
      rw [dLe] at u2
      rw [if_pos (by have := of_decide_eq_false u2; omega)] at qB
      exact qB _ rfl H' d (s03.trans s') ed
    have u2 : decide ((limit : Int) ≤ ((1000000 : Nat) : Int)) = true := u2
    rw [dLe] at u2
    rw [if_neg (by have := of_decide_eq_true u2; omega)] at qG
    -- the new stages
    let Z : Addr → Prop := fun b => b = a
    have za : Z a := rfl
    have hd3 : H3 a = some _ := s03 _ _ (s0 _ _ hd)
    have k0 : Wk Z H3 a _ H3 (fun _ => none) := Wk.start hd3
    refine ⟨_, rfl, rl, rfl, ⟨_, SqL.lst e3⟩, fun D2 nD2 => ?_⟩
    refine lc_makeG (StageAt c) (fun _ _ _ _ z sm => z.same sm) (bs.zip (Hs10.sixes ns)) (fun p => V.ref p.1) (fun p => p.2) k0.fr.sub nD2 ?_ ?_ (fun y hy H4 G4 fr Y N hY => ⟨rfl, ?_⟩) (fun H4 G4 cs fr nG4 e4 r4 => ?_)
    · rw [← zip_refs p3]
      exact SqL.lst e3
    · rw [zip_len p3, h6l]
      have : sizeLine = 16777216 := sizeLine_eq
      omega
    · refine ⟨_, rfl, ?_⟩
      intro x dx2 nx nd2 ne2
      have hy4 : H4 y.1 = some (.lst (stN y.2)) := fr.all _ _ (zip_has p3 y hy)
      refine ⟨x, dx2, y.1, y.2, rfl, upd_same, by rw [upd_ne (ne_of_none hy4 nx), upd_ne (ne_of_none hy4 nd2)]; exact hy4, rfl, ?_⟩
      rw [upd_upd]
      obtain ⟨G5, f5, a5⟩ := new_obj fr.sub nx nd2 ne2 c.cS (fsStage y.2)
      exact hY _ G5 x f5 ⟨dx2, a5⟩
    rw [zip_snd' p3] at r4
    have k1 := k0.step fr
    have fa : Fr H3 (fun _ => none) H4 (upd G4 D2 (.lst (cs.map V.ref))) := fr.add nD2 e4
    have k2 := k0.step fa
    have hst2 : StagesAt c (upd G4 D2 (.lst (cs.map V.ref))) D2 (Hs10.sixes ns) := ⟨cs, upd_same, pair_mono r4 fun _ _ z => z.same (same_new (Same.refl _) nG4 _)⟩
    generalize upd G4 D2 (.lst (cs.map V.ref)) = G5 at k2 hst2 fa
    refine ⟨_, rfl, a, c.cD, dx, _, rfl, k2.here, T.clDesk, T.nDesk_stages, (by show 7 < 1000; decide), ?_⟩
    rw [show putF "stages" (V.ref D2) (fsDesk ⟨sA, st.pattern.within, kA, rA, st.count, st.now, st.told⟩) = fsDesk ⟨D2, st.pattern.within, kA, rA, st.count, st.now, st.told⟩ from put_stages _ _]
    have k3 := k2.put za (.ins c.cD dx (fsDesk ⟨D2, st.pattern.within, kA, rA, st.count, st.now, st.told⟩))
    refine ⟨_, rfl, _, rfl, a, c.cD, dx, _, rfl, k3.here, T.clDesk, T.nDesk_limit, (by show 7 < 1000; decide), ?_⟩
    rw [show putF "limit" (I limit) (fsDesk ⟨D2, st.pattern.within, kA, rA, st.count, st.now, st.told⟩) = fsDesk ⟨D2, limit, kA, rA, st.count, st.now, st.told⟩ from put_limit _ _]
    have k4 := k3.put za (.ins c.cD dx (fsDesk ⟨D2, limit, kA, rA, st.count, st.now, st.told⟩))
    refine ⟨_, rfl, _, rfl, ?_⟩
    intro xk dk nxk ndk nek
    refine ⟨xk, dk, way, pivot, rfl, upd_same, fun d nd0 => ⟨rfl, ?_⟩⟩
    rw [upd_upd]
    obtain ⟨G6, f6, a6⟩ := new_obj k4.fr.sub nxk ndk nek c.cK (fsSkip ⟨way, pivot, 0, d⟩)
    have k5 := k4.step f6
    have nd1' := none_upd (u := .ins c.cK dk (fsSkip ⟨way, pivot, 0, d⟩)) nd0
    obtain ⟨G7, f7, a7⟩ := new_at k5.fr.sub nd1' (.dK [])
    have k6 := k5.step f7
    refine ⟨_, rfl, a, c.cD, dx, _, rfl, k6.here, T.clDesk, T.nDesk_skip, (by show 7 < 1000; decide), ?_⟩
    rw [show putF "skip" (V.ref xk) (fsDesk ⟨D2, limit, kA, rA, st.count, st.now, st.told⟩) = fsDesk ⟨D2, limit, xk, rA, st.count, st.now, st.told⟩ from put_skip _ _]
    have k7 := k6.put za (.ins c.cD dx (fsDesk ⟨D2, limit, xk, rA, st.count, st.now, st.told⟩))
    refine ⟨Nat.zero_le _, fun rA2 nrA => ?_⟩
    obtain ⟨G8, f8, a8⟩ := new_at k7.fr.sub nrA (.lst [])
    have k8 := k7.step f8
    refine ⟨_, rfl, a, c.cD, dx, _, rfl, k8.here, T.clDesk, T.nDesk_kept, (by show 7 < 1000; decide), ?_⟩
    rw [show putF "kept" (V.ref rA2) (fsDesk ⟨D2, limit, xk, rA, st.count, st.now, st.told⟩) = fsDesk ⟨D2, limit, xk, rA2, st.count, st.now, st.told⟩ from put_kept _ _]
    have k9 := k8.put za (.ins c.cD dx (fsDesk ⟨D2, limit, xk, rA2, st.count, st.now, st.told⟩))
    refine ⟨_, rfl, a, c.cD, dx, _, rfl, k9.here, T.clDesk, T.nDesk_came, (by show 7 < 1000; decide), ?_⟩
    rw [show putF "came" (V.int 0) (fsDesk ⟨D2, limit, xk, rA2, st.count, st.now, st.told⟩) = fsDesk ⟨D2, limit, xk, rA2, 0, st.now, st.told⟩ from put_came _ 0]
    have k10 := k9.put za (.ins c.cD dx (fsDesk ⟨D2, limit, xk, rA2, 0, st.now, st.told⟩))
    refine ⟨_, rfl, a, c.cD, dx, _, rfl, k10.here, T.clDesk, T.nDesk_now, (by show 7 < 1000; decide), ?_⟩
    rw [show putF "now" (V.int 0) (fsDesk ⟨D2, limit, xk, rA2, 0, st.now, st.told⟩) = fsDesk ⟨D2, limit, xk, rA2, 0, 0, st.told⟩ from put_now _ 0]
    have k11 := k10.put za (.ins c.cD dx (fsDesk ⟨D2, limit, xk, rA2, 0, 0, st.told⟩))
    refine ⟨_, rfl, a, c.cD, dx, _, rfl, k11.here, T.clDesk, T.nDesk_many_told, (by show 7 < 1000; decide), ?_⟩
    rw [show putF "many_told" (V.int 0) (fsDesk ⟨D2, limit, xk, rA2, 0, 0, st.told⟩) = fsDesk ⟨D2, limit, xk, rA2, 0, 0, 0⟩ from put_many_told _ 0]
    have k12 := k11.put za (.ins c.cD dx (fsDesk ⟨D2, limit, xk, rA2, 0, 0, 0⟩))
    refine ⟨_, rfl, by show 1 ≤ sizeLine; decide, fun l nl => ?_⟩
    rw [em]
    have k13 := k12.step ((Fr.refl k12.fr.sub).only nl (.lst [I (ns.length / 6)]))
    obtain ⟨e1', e2', e3'⟩ := k13.done za
    have up : Same G5 G8 := ((f6.up.trans f7.up).trans f8.up)
    refine qG rfl _ _ l e1' (fun b o hb hG => ?_) ?_ (fresh_desk (pat := ⟨way, pivot - 1, limit, Hs10.sixes ns⟩) (way := way) (pivot := pivot) k13.no (hst2.same up) ⟨dk, f8.up _ _ (f7.up _ _ a6)⟩ (f8.up _ _ a7) a8) upd_same
    · exact e2' b o (s03 _ _ hb) hG
    · have hz := k12.fr.all.free nl
      rw [hid_no (show ¬ Z l from fun z => by
        have z : l = a := z
        rw [z, k12.here] at nl
        cases nl)] at hz
      exact s03.free hz
end
end G

/-! ## PRd14 -/
/-! Desk.event. -/
namespace G
open PySem PySem.Spec PyProof.Rows L2
theorem tab_poke {H : Hp} {PT p : Addr} {o u : HO} (t : Tb H PT) (h : H p = some o) (h1 : ∀ ps, o ≠ .tbl ps) (h2 : ∀ phi, o ≠ .ext phi) : Tb (upd H p u) PT := by
  obtain ⟨ps, e, tk, tc⟩ := t
  have hne : PT ≠ p := fun z => by
    rw [z, h] at e
    exact h1 ps (Option.some.inj e)
  refine ⟨ps, by rw [upd_ne hne]; exact e, tk, fun pos cv hc => ?_⟩
  obtain ⟨c0, e1, e2⟩ := tc pos cv hc
  refine ⟨c0, e1, ?_⟩
  have hne2 : c0 ≠ p := fun z => by
    rw [z, h] at e2
    exact h2 _ (Option.some.inj e2)
  rw [upd_ne hne2]
  exact e2
theorem tab_some {H : Hp} {PT : Addr} (t : Tb H PT) : ∃ ps, H PT = some (.tbl ps) := let ⟨ps, e, _⟩ := t; ⟨ps, e⟩
/-- an event at work: the desk's object at a, o, and the table at PT stand apart from G1 -/
structure Ek (PT a : Addr) (H G0 : Hp) (o : HO) (H1 G1 : Hp) : Prop where
  fr : Fr (hid (fun b => b = a ∨ b = PT) H) G0 H1 G1
  here : H1 a = some o
  noA : G1 a = none
  noT : G1 PT = none
  tab : Tb H1 PT
section
variable {PT a : Addr} {H G0 H1 G1 H2 G2 : Hp} {o : HO}
theorem Ek.start (s : Same G0 H) (ha : H a = some o) (n : G0 a = none) (nT : G0 PT = none) (t : Tb H PT) : Ek PT a H G0 o H G0 :=
  ⟨Fr.start s (fun b z => by rcases z with z | z <;> rw [z] <;> assumption), ha, n, nT, t⟩
theorem Ek.step (k : Ek PT a H G0 o H1 G1) (f : Fr H1 G1 H2 G2) : Ek PT a H G0 o H2 G2 :=
  let ⟨_, e⟩ := tab_some k.tab
  ⟨k.fr.trans f, f.keep k.here, f.stay k.here k.noA, f.stay e k.noT, k.tab.ext f.all⟩
theorem Ek.more (k : Ek PT a H G0 o H1 G1) (s : Same H1 H2) : Ek PT a H G0 o H2 G1 := k.step ((Fr.refl k.fr.sub).more s)
/-- the table alone may have changed -/
theorem Ek.turn (k : Ek PT a H G0 o H1 G1) (ha : a ≠ PT) (s : ∀ b u, H1 b = some u → b ≠ PT → H2 b = some u) (t : Tb H2 PT) : Ek PT a H G0 o H2 G1 :=
  ⟨⟨k.fr.sub0, fun b u e => s b u (k.fr.all b u e) (fun z => by rw [hid_yes (.inr z)] at e; cases e), k.fr.up, fun b u e => s b u (k.fr.sub b u e) (fun z => by rw [z, k.noT] at e; cases e), k.fr.out⟩, s _ _ k.here ha, k.noA, k.noT, t⟩
theorem Ek.put (k : Ek PT a H G0 o H1 G1) (u : HO) (h1 : ∀ ps, o ≠ .tbl ps) (h2 : ∀ phi, o ≠ .ext phi) : Ek PT a H G0 u (upd H1 a u) G1 :=
  ⟨k.fr.poke (hid_yes (.inl rfl)) k.noA u, upd_same, k.noA, k.noT, tab_poke k.tab k.here h1 h2⟩
theorem Ek.poke (k : Ek PT a H G0 o H1 G1) {p : Addr} {x : HO} (u : HO) (h : H1 p = some x) (h1 : ∀ ps, x ≠ .tbl ps) (h2 : ∀ phi, x ≠ .ext phi) (n : hid (fun b => b = a ∨ b = PT) H p = none) (n1 : G1 p = none) (hpa : p ≠ a) : Ek PT a H G0 o (upd H1 p u) G1 :=
  ⟨k.fr.poke n n1 u, by rw [upd_ne (Ne.symm hpa)]; exact k.here, k.noA, k.noT, tab_poke k.tab h h1 h2⟩
theorem Ek.add (k : Ek PT a H G0 o H1 G1) {p : Addr} {u : HO} (n : hid (fun b => b = a ∨ b = PT) H p = none) (h : H1 p = some u) (hpa : p ≠ a) (hpT : p ≠ PT) : Ek PT a H G0 o H1 (upd G1 p u) :=
  ⟨k.fr.add n h, k.here, by rw [upd_ne (Ne.symm hpa)]; exact k.noA, by rw [upd_ne (Ne.symm hpT)]; exact k.noT, k.tab⟩
theorem Ek.out (k : Ek PT a H G0 o H1 G1) (ha : a ≠ PT) (u : HO) : Out PT H (upd G0 a u) H1 (upd G1 a o) := by
  refine ⟨fun b x e => ?_, fun b x e hG hb => ?_, k.tab, by rw [upd_ne (Ne.symm ha)]; exact k.noT⟩
  · by_cases hb : b = a
    · subst hb
      rw [upd_same] at e
      cases e
      exact k.here
    · rw [upd_ne hb] at e
      exact k.fr.sub b x e
  · have hba : b ≠ a := fun z => by
      rw [z, upd_same] at hG
      cases hG
    rw [upd_ne hba] at hG
    have e' : hid (fun b => b = a ∨ b = PT) H b = some x := by
      rw [hid_no (fun z => by rcases z with z | z; exact hba z; exact hb z)]
      exact e
    refine ⟨k.fr.all b x e', ?_⟩
    rw [upd_ne hba]
    exact k.fr.out b (by rw [e']; simp) hG
end
theorem telling_snoc (m : Hs10.Run) : ∀ (l : List Hs10.Run) (s : Sk × List Hs10.Run), telling s (l ++ [m]) = if (telling s l).1.isShut m.path = true then telling s l else ((telling s l).1.tell m.path, (telling s l).2 ++ [m])
  | [], s => by
    show (if s.1.isShut m.path = true then telling s [] else telling (s.1.tell m.path, s.2 ++ [m]) []) = _
    rfl
  | x :: l, s => by
    show (if s.1.isShut x.path = true then telling s (l ++ [m]) else telling (s.1.tell x.path, s.2 ++ [x]) (l ++ [m])) = _
    have e : telling s (x :: l) = if s.1.isShut x.path = true then telling s l else telling (s.1.tell x.path, s.2 ++ [x]) l := rfl
    rw [e]
    by_cases h : s.1.isShut x.path = true
    · rw [if_pos h, if_pos h]
      exact telling_snoc m l s
    · rw [if_neg h, if_neg h]
      exact telling_snoc m l _
theorem zip_filter_eq {β : Type} {F : Addr → β → Prop} (ok : β → Bool) : ∀ {as : List Addr} {xs : List β}, Paired F as xs → ((as.zip xs).filter fun p => ok p.2).map (fun p => V.ref p.1) = (((as.zip xs).filter fun p => ok p.2).map (·.1)).map V.ref := fun _ => by
  rw [List.map_map]
  rfl
theorem dp_ints {K : PySem.W.Frag} {H : Hp} : ∀ l : List Nat, DpAll K H (l.map fun t => I (t + 1)) (l.map fun (t : Nat) => PyData.int ((t + 1 : Nat) : Int))
  | [] => .nil
  | _ :: l => .cons (.int _) (dp_ints l)
theorem lay_ints : ∀ l : List Nat, PyData.canLayAll0 (l.map fun (t : Nat) => PyData.int ((t + 1 : Nat) : Int)) = true ∧ PyData.depthAll (l.map fun (t : Nat) => PyData.int ((t + 1 : Nat) : Int)) = 0
  | [] => ⟨rfl, rfl⟩
  | t :: l => by
    obtain ⟨h1, h2⟩ := lay_ints l
    constructor
    · show (PyData.canLay0 (PyData.int ((t + 1 : Nat) : Int)) && PyData.canLayAll0 (l.map fun (t : Nat) => PyData.int ((t + 1 : Nat) : Int))) = true
      rw [h1]
      rfl
    · show max (PyData.depth (PyData.int ((t + 1 : Nat) : Int))) (PyData.depthAll (l.map fun (t : Nat) => PyData.int ((t + 1 : Nat) : Int))) = 0
      rw [h2]
      rfl
theorem shaped_ints (l : List Nat) : SeqAt.shaped (.list (l.map fun (t : Nat) => PyData.int ((t + 1 : Nat) : Int))) = true := by
  obtain ⟨h1, h2⟩ := lay_ints l
  unfold SeqAt.shaped
  rw [Bool.and_eq_true]
  refine ⟨h1, decide_eq_true ?_⟩
  show PyData.depthAll (l.map fun (t : Nat) => PyData.int ((t + 1 : Nat) : Int)) + 1 ≤ 64
  rw [h2]
  decide
theorem ne_nil (l : List Nat) : (!PyData.eqv (.list (l.map fun (t : Nat) => PyData.int ((t + 1 : Nat) : Int))) (.list [])) = !l.isEmpty := by
  cases l <;> rfl
theorem new_len {s : Hs10.St} (h : StOk s) (e : Hs10.Ev) : (Hs10.newRuns (srt s) e).length ≤ 2408 := by
  have hs := h.srt
  have h8 := h.st.high
  have g3 := flat_len (Hs10.grown s.pattern (s.count + 1) e) 8 (sortR s.runs) fun x hx => Nat.le_trans (grown_len _ _ _ _) (open_le (hs.runs x hx) h8)
  have g5 := (firsts_sub s.pattern).length_le
  rw [List.length_range] at g5
  have g4 : (Hs10.begun s.pattern (s.count + 1) e).length ≤ 8 := by
    unfold Hs10.begun
    rw [List.length_map]
    exact Nat.le_trans (List.length_filter_le _ _) (Nat.le_trans g5 h8)
  have g6 : (sortR s.runs).length ≤ 300 := hs.few
  show ((sortR s.runs).flatMap (Hs10.grown s.pattern (s.count + 1) e) ++ Hs10.begun s.pattern (s.count + 1) e).length ≤ 2408
  rw [List.length_append]
  omega
/-- an address that is new to what stood outside of G -/
def New (PT : Addr) (H G : Hp) (l : Addr) : Prop := ∀ b o, H b = some o → G b = none → b ≠ PT → l ≠ b
section
variable {P : Program} {w : World} {K : PySem.W.Frag} {mg : Str → Option Value} {base : Heap} {c : Cs} {C fI : Addr}
def spEvent (c : Cs) (C PT : Addr) : Sp := fun vs H Q E => ∃ (G : Hp) (a : Addr) (s : Hs10.St) (k : Sk) (kind value time : Nat), vs = [.ref a, I kind, I value, I time] ∧ Same G H ∧ G PT = none ∧ Tb H PT ∧ DeskAt c G a s k ∧ Rel s k ∧ s.count ≤ 1000 ∧
  (∀ n : Int, Hs10.step s (.event kind value time) = (s, [n]) → ∀ H' G' d, Out PT H G H' G' → DeskAt c G' a s k → H' d = some (.xd [("number", .int n)]) → E (.ref C) (some d) H') ∧
  (∀ s' k' ns, Hs10.step s (.event kind value time) = (s', Hs10.ints ns) → Rel s' k' → s'.count = s.count + 1 → ∀ H' G' l, Out PT H G H' G' → New PT H G l → DeskAt c G' a s' k' → H' l = some (.lst (ns.map I)) → Q (.ref l) H')
abbrev sEvent : Stmt := inClass (top 57) 3
theorem scEvent : FnScope ["self", "kind", "value", "time", "event", "made", "matches", "skip", "told", "match", "elder", "kept", "found", "run"] ["self", "kind", "value", "time"] (defScope sEvent) := ⟨rfl, rfl, rfl, by decide +kernel, rfl, by decide +kernel, by decide +kernel⟩
set_option maxHeartbeats 8000000 in
theorem ok_event {f fW fE fN fQ fO fC fH fT fB fL fS : Addr} {fd fdW fdE fdN fdQ fdO fdC fdH fdT fdB fdL fdS : FuncData} {PT : Addr} (F : Fun K "event" "Desk.event" sEvent f fd) (T : Txt K c) (DW : Df K mg "want" sWant ["is_so", "number"] fW fdW) (GW : FnOk P w K mg base (L2.CX P w) 3 fW fdW ["is_so", "number"] (spWant C))
    (ME : Mk K c.cE fE) (gE : mg "Event" = some (.ref c.cE)) (bE : Binds K fdE ["self", "number", "kind", "value", "time"] []) (GE : FnOk P w K mg base CX0 1 fE fdE ["self", "number", "kind", "value", "time"] (spEventI c))
    (MN : Mt K c.cD "new_runs" "Desk.new_runs" sNew ["self", "event"] fN fdN) (GN : FnOk P w K mg base CX0 5 fN fdN ["self", "event"] (spNew c))
    (DE : Df K mg "is_end" sEnd ["stages", "number"] fQ fdQ) (GE' : FnOk P w K mg base CX0 2 fQ fdQ ["stages", "number"] (spEnd c))
    (DO : Df K mg "in_order" sOrder ["runs"] fO fdO) (GO : FnOk P w K mg base CX0 3 fO fdO ["runs"] (spOrder c PT))
    (MC : Mt K c.cK "copied" "Skip.copied" sCopied ["self"] fC fdC) (GC : FnOk P w K mg base CX0 3 fC fdC ["self"] (spCopied c))
    (MSh : Mt K c.cK "is_shut" "Skip.is_shut" sShut ["self", "run"] fH fdH) (GSh : FnOk P w K mg base CX0 2 fH fdH ["self", "run"] (spShut c))
    (MT : Mt K c.cK "tell" "Skip.tell" sTell ["self", "match"] fT fdT) (GT : FnOk P w K mg base CX0 2 fT fdT ["self", "match"] (spTell c))
    (DB : Df K mg "passed_by" sPassed_by ["stages", "run", "event", "limit"] fB fdB) (GB : FnOk P w K mg base CX0 4 fB fdB ["stages", "run", "event", "limit"] (spPassed_by c))
    (DL : Df K mg "run_told" sTold ["run"] fL fdL) (GL : FnOk P w K mg base CX0 1 fL fdL ["run"] (spTold c))
    (MSt : Mt K c.cR "stage" "Run.stage" sStageM ["self"] fS fdS) (GSt : FnOk P w K mg base CX0 1 fS fdS ["self"] (spStageM c))
    (mK : CI mg "MOST_KIND" 9) (mG : CI mg "GREATEST" 1000000) (mR : CI mg "MOST_RUNS" 300) (w1 : CI mg "WRONG_EVENT" (-1)) (w2 : CI mg "TOO_EARLY" (-2)) (w9 : CI mg "TOO_MUCH" (-9)) (mLen : mg "len" = none) :
    FnOk P w K mg base (L2.CX P w) 6 f fd ["self", "kind", "value", "time"] (spEvent c C PT) := by
  obtain ⟨_, mK⟩ := mK
  obtain ⟨_, mG⟩ := mG
  obtain ⟨_, mR⟩ := mR
  obtain ⟨_, w1⟩ := w1
  obtain ⟨_, w2⟩ := w2
  obtain ⟨_, w9⟩ := w9
  refine F.okX scEvent ?_ ?_
  · rintro vs H Q E ⟨G, a, s, k, kind, value, time, rfl, _⟩
    rfl
  · intro cdv A outer s H vs Q E hr h
    have hr1 : Room 1 _ := hr.mono (by decide)
    have hr2 : Room 2 _ := hr.mono (by decide)
    have hr3 : Room 3 _ := hr.mono (by decide)
    have hr4 : Room 4 _ := hr.mono (by decide)
    refine ⟨_, (pss_cons (ps_expr (pe_call GW hr3 rfl DW.g DW.F.kp DW.b .nil (passes_call (takes_of (E := E) rfl rfl rfl rfl) (fun _ _ _ _ h => h)) (pa_cons (pe_and (pe_cmpR op_le (pv 1) (pe_glob (v := .int 9) rfl mK ⟨_, rfl⟩) (nomark _)) (pe_one (pe_cmpR op_le (pv 2) (pe_glob (v := .int 1000000) rfl mG ⟨_, rfl⟩) (nomark _)))) (pa_cons (pe_glob (v := .int (-1)) rfl w1 ⟨_, rfl⟩) pa_nil))))
      (pss_cons (ps_expr (pe_call GW hr3 rfl DW.g DW.F.kp DW.b .nil (passes_call (takes_of (E := E) rfl rfl rfl rfl) (fun _ _ _ _ h => h)) (pa_cons (pe_cmpR op_ge (pv 3) (pe_fld (pv 0) rfl) (nomark _)) (pa_cons (pe_glob (v := .int (-2)) rfl w2 ⟨_, rfl⟩) pa_nil))))
      (pss_cons (ps_set (i := 4) scEvent.nd rfl (Or.inr rfl) (pe_make ME GE hr2 rfl gE bE .nil pass0 (pa_cons (pe_op op_add (pe_fld (pv 0) rfl) pe_int) (pa_cons (pv 1) (pa_cons (pv 2) (pa_cons (pv 3) pa_nil))))))
      (pss_cons (ps_set (i := 5) scEvent.nd rfl (Or.inl rfl) (pe_meth (pv 0) T.clDesk MN.m GN hr MN.b .nil pass0 (pa_cons (pv 4) pa_nil)))
      (pss_cons (ps_set (i := 6) scEvent.nd rfl (Or.inl rfl) (pe_call GO hr3 rfl DO.g DO.F.kp DO.b .nil pass0 (pa_cons (pe_lc (own := [("run", 13)]) (g := gName 13) (tt := tB (tCall (spEnd c) [] E0 (tCons (tFld K (tVar 0) "stages") (tCons (tMeth c.cR "stage" (spStageM c) [] E0 (tVar 13) tNil) tNil)))) (te := tVar 13) rfl scEvent.nd (pi_list (pv 5)) (blkOk_by (N := ["self", "kind", "value", "time", "event", "made", "matches", "skip", "told", "match", "elder", "kept", "found", "run"]) (sc := defScope sEvent) (by decide +kernel)) (fun _ _ _ _ _ => pg_name (i := 13) scEvent.nd rfl (Or.inl rfl)) (fun _ _ _ _ _ => pts_one (pt_val (pe_call GE' hr2 rfl DE.g DE.F.kp DE.b .nil pass0 (pa_cons (pe_fld (pv 0) rfl) (pa_cons (pe_meth0 (pv 13) T.clRun MSt.m GSt hr1 MSt.b .nil pass0) pa_nil))))) (fun _ _ _ _ _ => pv 13)) pa_nil)))
      (pss_cons (ps_expr (pe_call GW hr3 rfl DW.g DW.F.kp DW.b .nil (passes_call (takes_of (E := E) rfl rfl rfl rfl) (fun _ _ _ _ h => h)) (pa_cons (pe_cmpR op_le (pe_callB call_len_seq (by rfl) mLen PySem.boot_len (pa_cons (pv 6) pa_nil)) (pe_glob (v := .int 300) rfl mR ⟨_, rfl⟩) (nomark _)) (pa_cons (pe_glob (v := .int (-9)) rfl w9 ⟨_, rfl⟩) pa_nil))))
      (pss_cons (ps_set (i := 7) scEvent.nd rfl (Or.inr rfl) (pe_meth0 (pe_fld (pv 0) rfl) T.clSkip MC.m GC hr3 MC.b .nil pass0))
      (pss_cons (ps_set (i := 8) scEvent.nd rfl (Or.inl rfl) (pe_lst pa_nil))
      (pss_cons (ps_for (passes_of rfl) rfl (pi_list (pv 6)) (pg_name (i := 9) scEvent.nd rfl (Or.inl rfl)) (pss_one (ps_if (pt_not (pt_val (pe_meth (pv 7) T.clSkip MSh.m GSh hr2 MSh.b .nil pass0 (pa_cons (pv 9) pa_nil)))) (pss_cons (ps_expr (pe_meth (pv 7) T.clSkip MT.m GT hr2 MT.b .nil pass0 (pa_cons (pv 9) pa_nil))) (pss_one (ps_expr (pe_bm PySem.F.plainAttrs_list PySem.F.slot_list_append PySem.F.type_list_append mt_append (pv 8) (pa_cons (pv 9) pa_nil))))) pss_nil)))
      (pss_cons (ps_setLc (i := 10) (own := [("run", 13)]) (g := gName 13) (tt := tYes) (te := tCall (spPassed_by c) [] E0 (tCons (tFld K (tVar 0) "stages") (tCons (tVar 13) (tCons (tVar 4) (tCons (tFld K (tVar 0) "limit") tNil))))) rfl scEvent.nd rfl rfl (sw_true rfl rfl rfl (by decide +kernel)) (pi_list (pe_fld (pv 0) rfl)) (blkOk_by (N := ["self", "kind", "value", "time", "event", "made", "matches", "skip", "told", "match", "elder", "kept", "found", "run"]) (sc := defScope sEvent) (by decide +kernel)) (fun _ _ _ _ _ => pg_name (i := 13) scEvent.nd rfl (Or.inl rfl)) (fun _ _ _ _ _ => pts_nil) (fun _ _ _ _ _ => (pe_call GB hr4 rfl DB.g DB.F.kp DB.b .nil pass0 (pa_cons (pe_fld (pv 0) rfl) (pa_cons (pv 13) (pa_cons (pv 4) (pa_cons (pe_fld (pv 0) rfl) pa_nil)))))))
      (pss_cons (ps_setLc (i := 11) (own := [("run", 13)]) (g := gName 13) (tt := tAnd (tTest (tOp (rNeD K) (tFld K (tVar 13) "open_ones") (tLst tNil))) (tNot (tB (tMeth c.cK "is_shut" (spShut c) [] E0 (tVar 7) (tCons (tVar 13) tNil))))) (te := tVar 13) rfl scEvent.nd rfl rfl (sw_true rfl rfl rfl (by decide +kernel)) (pi_list (pe_op op_cat (pv 10) (pv 5))) (blkOk_by (N := ["self", "kind", "value", "time", "event", "made", "matches", "skip", "told", "match", "elder", "kept", "found", "run"]) (sc := defScope sEvent) (by decide +kernel)) (fun _ _ _ _ _ => pg_name (i := 13) scEvent.nd rfl (Or.inl rfl)) (fun _ _ _ _ _ => pts_one (PW.pt (pw_and (pt_cmpR (op_neD hr.units) (pe_fld (pv 13) rfl) (pe_lst pa_nil) (nomark _)) (pw_and1 (pt_not (pt_val (pe_meth (pv 7) T.clSkip MSh.m GSh hr2 MSh.b .nil pass0 (pa_cons (pv 13) pa_nil)))))))) (fun _ _ _ _ _ => pv 13))
      (pss_cons (ps_expr (pe_call GW hr3 rfl DW.g DW.F.kp DW.b .nil (passes_call (takes_of (E := E) rfl rfl rfl rfl) (fun _ _ _ _ h => h)) (pa_cons (pe_cmpR op_le (pe_callB call_len_seq (by rfl) mLen PySem.boot_len (pa_cons (pv 11) pa_nil)) (pe_glob (v := .int 300) rfl mR ⟨_, rfl⟩) (nomark _)) (pa_cons (pe_glob (v := .int (-9)) rfl w9 ⟨_, rfl⟩) pa_nil))))
      (pss_cons (ps_fld (pv 0) (pv 7) rfl)
      (pss_cons (ps_fld (pv 0) (pe_call GO hr3 rfl DO.g DO.F.kp DO.b .nil pass0 (pa_cons (pv 11) pa_nil)) rfl)
      (pss_cons (ps_fld (pv 0) (pe_fld (pv 4) rfl) rfl)
      (pss_cons (ps_fld (pv 0) (pv 3) rfl)
      (pss_cons (ps_fld (pv 0) (pe_op op_add (pe_fld (pv 0) rfl) (pe_callB call_len_seq (by rfl) mLen PySem.boot_len (pa_cons (pv 8) pa_nil))) rfl)
      (pss_cons (ps_set (i := 12) scEvent.nd rfl (Or.inl rfl) (pe_lst (pa_cons (pe_callB call_len_seq (by rfl) mLen PySem.boot_len (pa_cons (pv 8) pa_nil)) pa_nil)))
      (pss_cons (ps_for (passes_of rfl) rfl (pi_list (pv 8)) (pg_name (i := 9) scEvent.nd rfl (Or.inl rfl)) (pss_one (ps_expr (pe_bm PySem.F.plainAttrs_list PySem.F.slot_list_extend PySem.F.type_list_extend mt_extend (pv 12) (pa_cons (pe_call GL hr1 rfl DL.g DL.F.kp DL.b .nil pass0 (pa_cons (pv 9) pa_nil)) pa_nil)))))
      (pss_one (ps_ret (pv 12)))))))))))))))))))))), ?_⟩
    obtain ⟨G, a, st, k, kind, value, time, rfl, sG, nT, tT, ⟨G0, dx, sA, kA, rA, b0, as, n0, rfl, hst, ⟨dxk, hsk⟩, hb0, hr0, hrs⟩, hrel, hcnt, qB, qG⟩ := h
    have hne : a ≠ PT := fun z => by
      rw [← z, upd_same] at nT
      cases nT
    have nT0 : G0 PT = none := by
      rw [upd_ne (Ne.symm hne)] at nT
      exact nT
    have s0 : Same G0 H := (same_new (Same.refl G0) n0 _).trans sG
    have hd := sG _ _ upd_same
    have k0 : Ek PT a H G0 _ H G0 := Ek.start s0 hd n0 nT0 tT
    have hok := hrel.ok
    have h8 := hok.st.high
    have deskAt : ∀ {H1 G1 : Hp}, Ek PT a H G0 (.ins c.cD dx (fsDesk ⟨sA, st.pattern.within, kA, rA, st.count, st.now, st.told⟩)) H1 G1 → DeskAt c (upd G1 a (.ins c.cD dx (fsDesk ⟨sA, st.pattern.within, kA, rA, st.count, st.now, st.told⟩))) a st k := fun {H1 G1} k1 =>
      ⟨G1, dx, sA, kA, rA, b0, as, k1.noA, rfl, hst.same k1.fr.up, ⟨dxk, k1.fr.up _ _ hsk⟩, k1.fr.up _ _ hb0, k1.fr.up _ _ hr0, runs_same hrs k1.fr.up⟩
    have refuse : ∀ {H1 G1 : Hp} (n : Int), Hs10.step st (.event kind value time) = (st, [n]) → Ek PT a H G0 (.ins c.cD dx (fsDesk ⟨sA, st.pattern.within, kA, rA, st.count, st.now, st.told⟩)) H1 G1 → ∀ H' d, Same H1 H' → H' d = some (.xd [("number", .int n)]) → E (.ref C) (some d) H' := fun {H1 G1} n hs k1 H' d s' ed =>
      qB n hs H' _ d ((k1.more s').out hne _) (deskAt (k1.more s')) ed
    -- 1: the kind and the value
    refine ⟨_, rfl, _, _, rfl, rfl, _, rfl, ifd (dLe kind 9) (fun h9 => ?_) (fun h9 => ?_)⟩
    rotate_left
    · exact ⟨false, -1, rfl, fun z => (by cases z), fun _ H' d s' _ ed => refuse (-1) (if_pos (.inl (by omega))) k0 H' d s' ed⟩
    refine ⟨_, rfl, _, _, rfl, rfl, _, -1, rfl, fun hv => ?_, fun hv H' d s' _ ed => refuse (-1) (if_pos (.inr ?_)) k0 H' d s' ed⟩
    rotate_left
    · have hv : decide ((value : Int) ≤ ((1000000 : Nat) : Int)) = false := hv
      rw [dLe] at hv
      have := of_decide_eq_false hv
      omega
    have hv : decide ((value : Int) ≤ ((1000000 : Nat) : Int)) = true := hv
    rw [dLe] at hv
    have hv := of_decide_eq_true hv
    have c1 : ¬ (9 < kind ∨ 1000000 < value) := by omega
    -- 2: the time
    refine ⟨_, rfl, _, rfl, T.desk_now ⟨dx, hd⟩ ⟨_, _, rfl, rfl, _, -2, rfl, fun ht => ?_, fun ht H' d s' _ ed => refuse (-2) ((if_neg c1).trans (if_pos ?_)) k0 H' d s' ed⟩⟩
    rotate_left
    · have ht : decide ((st.now : Int) ≤ (time : Int)) = false := ht
      rw [dLe] at ht
      have := of_decide_eq_false ht
      omega
    have ht : decide ((st.now : Int) ≤ (time : Int)) = true := ht
    rw [dLe] at ht
    have c2 : ¬ time < st.now := by
      have := of_decide_eq_true ht
      omega
    -- 3: the event
    refine ⟨_, rfl, T.desk_came ⟨dx, hd⟩ ⟨_, _, rfl, rfl, _, rfl, _, rfl, _, rfl, ?_⟩⟩
    intro ev dxe nev ndxe nee
    refine ⟨ev, dxe, ⟨st.count + 1, kind, value, time⟩, rfl, upd_same, rfl, ?_⟩
    rw [upd_upd]
    obtain ⟨Ge, fe, ae⟩ := new_obj k0.fr.sub nev ndxe nee c.cE (fsEvent ⟨st.count + 1, kind, value, time⟩)
    have k1 := k0.step fe
    -- 4: the new runs
    refine ⟨_, rfl, a, dx, _, rfl, k1.here, fsDesk_no_new_runs _, _, rfl, Ge, a, ev, st, ⟨st.count + 1, kind, value, time⟩, sA, rA, as, kA, rfl, k1.fr.sub, ⟨dx, k1.here⟩, (hst.same k1.fr.up).same k1.fr.sub, k1.fr.sub _ _ (k1.fr.up _ _ hr0), runs_same hrs k1.fr.up, hok, by omega, ⟨dxe, ae⟩, rfl, fun H2 G2 ml ms f2 nml nG2 e2 r2 => ?_⟩
    have k2 := k1.step f2
    have hev2 : EvAt c G2 ev ⟨st.count + 1, kind, value, time⟩ := ⟨dxe, f2.up _ _ ae⟩
    have hnl := new_len hok ⟨kind, value, time⟩
    have r2 : Runs c G2 ms (Hs10.newRuns (srt st) ⟨kind, value, time⟩) := r2
    have hz : sizeLine = 16777216 := sizeLine_eq
    -- 5: the matches, in order
    refine ⟨_, rfl, ml, rfl, ⟨_, SqL.lst e2⟩, fun D nD => ?_⟩
    refine lc_pure (ms.zip (Hs10.newRuns (srt st) ⟨kind, value, time⟩)) (fun p => V.ref p.1) (fun p => Hs10.canEnd st.pattern (Hs10.lastStage p.2)) (fun p => V.ref p.1) nD ?_ ?_ (fun y hy H3 s3 Y N hY hN => ⟨rfl, ?_⟩) (fun H3 s3 eD => ?_)
    · rw [← zip_refs r2]
      exact SqL.lst e2
    · rw [zip_len r2]
      omega
    · obtain ⟨rr, y0, z, q1, q2, ⟨rdx, hro⟩, hri⟩ := ((zip_has r2 y hy).same k2.fr.sub).same s3
      refine ⟨_, rfl, T.desk_stages ⟨dx, s3 _ _ k2.here⟩ ⟨_, rfl, y.1, rdx, _, rfl, hro, fsRun_no_stage _, y.1, rr, _, pk z, rfl, ⟨rdx, hro⟩, hri.key, pk_last hri.lt, sA, st.pattern, z.stage, rfl, ((hst.same k2.fr.up).same k2.fr.sub).same s3, h8, fun H4 s4 => ⟨_, rfl, ?_⟩⟩⟩
      have el : Hs10.lastStage y.2 = z.stage := path_last hri.lt
      cases hk : Hs10.canEnd st.pattern z.stage with
      | true => exact iteT ⟨_, rfl, hY H4 s4 (by rw [el]; exact hk)⟩
      | false => exact iteF (hN H4 s4 (by rw [el]; exact hk))
    have k3 := k2.more s3
    refine ⟨D, ((ms.zip (Hs10.newRuns (srt st) ⟨kind, value, time⟩)).filter fun p => Hs10.canEnd st.pattern (Hs10.lastStage p.2)).map (·.1), (Hs10.newRuns (srt st) ⟨kind, value, time⟩).filter fun r => Hs10.canEnd st.pattern (Hs10.lastStage r), rfl, by rw [List.map_map]; exact eD, runs_same (zip_filter (fun r => Hs10.canEnd st.pattern (Hs10.lastStage r)) r2) k3.fr.sub, (kn_new hok.srt _).sub List.filter_sublist, k3.tab, fun H4 mA ns4 old4 t4 nl4 e4 pf4 => ?_⟩
    have k4 := k3.turn hne old4 t4
    have rE : Runs c G2 ns4 (ends st ⟨kind, value, time⟩) := pf4 _ (zip_filter (fun r => Hs10.canEnd st.pattern (Hs10.lastStage r)) r2)
    have nlen : (ns4.map V.ref).length = (ends st ⟨kind, value, time⟩).length := by rw [List.length_map, pair_len rE]
    have eml4 : H4 ml = some (.lst (ms.map V.ref)) := old4 _ _ (s3 _ _ e2) (fun z => by
      obtain ⟨ps, e⟩ := tab_some k2.tab
      rw [z, e] at e2
      cases e2)
    -- 6: not too many
    refine ⟨_, rfl, mA, _, rfl, .inl (SqL.lst e4), _, _, rfl, rfl, _, -9, rfl, fun hm => ?_, fun hm H' d s' _ ed => refuse (-9) (hrel.step_much kind value time c1 c2 (.inl ?_)) k4 H' d s' ed⟩
    rotate_left
    · have hm : decide ((((ns4.map V.ref).length : Nat) : Int) ≤ ((300 : Nat) : Int)) = false := hm
      rw [dLe, nlen] at hm
      have := of_decide_eq_false hm
      omega
    have hm : decide ((((ns4.map V.ref).length : Nat) : Int) ≤ ((300 : Nat) : Int)) = true := hm
    rw [dLe, nlen] at hm
    have hm := of_decide_eq_true hm
    -- 7: the skip, copied
    refine ⟨_, rfl, T.desk_skip ⟨dx, k4.here⟩ ⟨kA, dxk, _, rfl, k4.fr.sub _ _ (k4.fr.up _ _ hsk), fsSkip_no_copied _, kA, b0, k, rfl, ⟨dxk, k4.fr.sub _ _ (k4.fr.up _ _ hsk)⟩, k4.fr.sub _ _ (k4.fr.up _ _ hb0), fun H5 x dxx b' s5 nx nb ex eb => ?_⟩⟩
    have k5 := k4.more s5
    have hx0 := k4.fr.all.free nx
    have hb0' := k4.fr.all.free nb
    have gx : G2 x = none := k4.fr.sub.free nx
    have gb : G2 b' = none := k4.fr.sub.free nb
    have xa : x ≠ a := Ne.symm (ne_of_none k4.here nx)
    have ba : b' ≠ a := Ne.symm (ne_of_none k4.here nb)
    have xT : x ≠ PT := fun z => by
      obtain ⟨ps, e⟩ := tab_some k4.tab
      rw [← z, nx] at e
      cases e
    have bT : b' ≠ PT := fun z => by
      obtain ⟨ps, e⟩ := tab_some k4.tab
      rw [← z, nb] at e
      cases e
    have xb : x ≠ b' := ne_of ex eb (fun z => by cases z)
    -- 8: told = []
    refine ⟨Nat.zero_le _, fun tl ntl => ?_⟩
    have s6 : Same H5 (upd H5 tl (.lst [])) := same_new (Same.refl _) ntl _
    have k6 := k5.more s6
    have etl6 : upd H5 tl (.lst []) tl = some (.lst []) := upd_same
    have ht0 := k5.fr.all.free ntl
    have gt : G2 tl = none := k5.fr.sub.free ntl
    have ta : tl ≠ a := Ne.symm (ne_of_none k5.here ntl)
    have xt : x ≠ tl := ne_of_none ex ntl
    have bt : b' ≠ tl := ne_of_none eb ntl
    have mt : mA ≠ tl := ne_of_none (s5 _ _ e4) ntl
    have mx : mA ≠ x := ne_of_none e4 nx
    have mb : mA ≠ b' := ne_of_none e4 nb
    have mlt : ml ≠ tl := ne_of_none (s5 _ _ eml4) ntl
    have mlx : ml ≠ x := ne_of_none eml4 nx
    have mlb : ml ≠ b' := ne_of_none eml4 nb
    have ex6 := s6 _ _ ex
    have eb6 := s6 _ _ eb
    have em6 := s6 _ _ (s5 _ _ e4)
    have eml6 := s6 _ _ (s5 _ _ eml4)
    generalize upd H5 tl (.lst []) = H6 at k6 etl6 ex6 eb6 em6 eml6 s6
    -- 9: the loop over the matches
    refine ⟨_, rfl, mA, rfl, ⟨_, SqL.lst em6⟩, ?_⟩
    refine for_list (K := K) (a := mA) (xs := ns4.map V.ref) (fun i σ H7 => ∃ ts v9, σ = [some (.ref a), some (I kind), some (I value), some (I time), some (.ref ev), some (.ref ml), some (.ref mA), some (.ref x), some (.ref tl), v9, none, none, none, none] ∧ Ek PT a H G0 (.ins c.cD dx (fsDesk ⟨sA, st.pattern.within, kA, rA, st.count, st.now, st.told⟩)) H7 G2 ∧
      (∀ b u, H6 b = some u → b ≠ x → b ≠ b' → b ≠ tl → H7 b = some u) ∧ H7 x = some (.ins c.cK dxx (fsSkip ⟨(telling (k, []) ((ends st ⟨kind, value, time⟩).take i)).1.way, (telling (k, []) ((ends st ⟨kind, value, time⟩).take i)).1.pivot, (telling (k, []) ((ends st ⟨kind, value, time⟩).take i)).1.shut, b'⟩)) ∧
      H7 b' = some (.dK (bk (telling (k, []) ((ends st ⟨kind, value, time⟩).take i)).1.begins)) ∧ H7 tl = some (.lst (ts.map V.ref)) ∧ Runs c G2 ts (telling (k, []) ((ends st ⟨kind, value, time⟩).take i)).2)
      ⟨[], none, rfl, k6, fun _ _ e _ _ _ => e, ex6, eb6, etl6, .nil⟩ (fun i σ H7 _ ⟨_, _, _, _, old7, _⟩ => SqL.lst (old7 _ _ em6 mx mb mt)) ?_ ?_
    · rintro i y σ H7 hy ⟨ts, v9, rfl, k7, old7, ex7, eb7, et7, r7⟩
      obtain ⟨m, hm', rfl⟩ := get_map hy
      obtain ⟨r, hr', hrr⟩ := pair_get rE hm'
      have hbound := telling_bounds (p := st.pattern) (c := st.count + 1) ((ends st ⟨kind, value, time⟩).take i) k [] (300 * st.count) (fun m hm => new_ok hok _ m (ends_mem (List.mem_of_mem_take hm))) (Nat.le_succ_of_le hrel.to) (fun b hb => Nat.le_succ_of_le (hrel.bs b hb)) hrel.bl
      have htl := telling_len ((ends st ⟨kind, value, time⟩).take i) k []
      have etake := take_next hr'
      have esn := telling_snoc r ((ends st ⟨kind, value, time⟩).take i) (k, [])
      rw [← etake] at esn
      refine ⟨_, rfl, x, dxx, _, rfl, ex7, fsSkip_no_is_shut _, _, rfl, x, m, b', (telling (k, []) ((ends st ⟨kind, value, time⟩).take i)).1, r, rfl, ⟨dxx, ex7⟩, eb7, hrr.same k7.fr.sub, _, rfl, ?_⟩
      cases hsh : (telling (k, []) ((ends st ⟨kind, value, time⟩).take i)).1.isShut r.path with
      | true =>
        rw [if_pos hsh] at esn
        refine iteF ⟨ts, _, rfl, k7, old7, ?_, ?_, et7, ?_⟩
        · rw [esn]
          exact ex7
        · rw [esn]
          exact eb7
        · rw [esn]
          exact r7
      | false =>
        rw [if_neg (by rw [hsh]; decide)] at esn
        refine iteT ⟨_, rfl, x, dxx, _, rfl, ex7, fsSkip_no_tell _, _, rfl, x, dxx, m, b', (telling (k, []) ((ends st ⟨kind, value, time⟩).take i)).1, r, rfl, ex7, eb7, ?_, hrr.same k7.fr.sub, ?_⟩
        · have := hbound.2.2
          rw [List.length_take] at this
          omega
        generalize hkn : (telling (k, []) ((ends st ⟨kind, value, time⟩).take i)).1.tell r.path = kn at esn
        have k8 := k7.poke (.ins c.cK dxx (fsSkip ⟨kn.way, kn.pivot, kn.shut, b'⟩)) ex7 (fun _ z => by cases z) (fun _ z => by cases z) hx0 gx xa
        have eb8 : upd H7 x (.ins c.cK dxx (fsSkip ⟨kn.way, kn.pivot, kn.shut, b'⟩)) b' = some (.dK (bk (telling (k, []) ((ends st ⟨kind, value, time⟩).take i)).1.begins)) := by
          rw [upd_ne (Ne.symm xb)]
          exact eb7
        have k9 := k8.poke (.dK (bk kn.begins)) eb8 (fun _ z => by cases z) (fun _ z => by cases z) hb0' gb ba
        have et9 : skH c H7 x dxx b' kn tl = some (.lst (ts.map V.ref)) := by
          unfold skH
          rw [upd_ne (Ne.symm bt), upd_ne (Ne.symm xt)]
          exact et7
        refine ⟨_, rfl, tyL et9, _, rfl, tl, _, _, rfl, rfl, et9, ?_, ts ++ [m], _, rfl, k9.poke (.lst (ts.map V.ref ++ [V.ref m])) et9 (fun _ z => by cases z) (fun _ z => by cases z) ht0 gt ta, ?_, ?_, ?_, ?_, ?_⟩
        · rw [List.length_map, pair_len r7]
          rw [List.length_take, List.length_nil] at htl
          omega
        · intro b u hb h1 h2 h3
          rw [upd_ne h3]
          unfold skH
          rw [upd_ne h2, upd_ne h1]
          exact old7 b u hb h1 h2 h3
        · rw [esn, upd_ne xt]
          unfold skH
          rw [upd_ne xb, upd_same]
        · rw [esn, upd_ne bt]
          unfold skH
          rw [upd_same]
        · rw [upd_same, List.map_append]
          rfl
        · rw [esn]
          exact pair_snoc hrr r7
    rintro σ H7 ⟨ts, v9, rfl, k7, old7, ex7, eb7, et7, r7⟩
    rw [nlen, List.take_length] at ex7 eb7 r7
    have eml7 := old7 _ _ eml6 mlx mlb mlt
    obtain ⟨kf, rs, hkf⟩ : ∃ kf rs, telling (k, []) (ends st ⟨kind, value, time⟩) = (kf, rs) := ⟨_, _, rfl⟩
    rw [hkf] at ex7 eb7 r7
    -- 10: the elder runs
    refine ⟨_, rfl, T.desk_kept ⟨dx, k7.here⟩ ⟨rA, rfl, ⟨_, SqL.lst (k7.fr.sub _ _ (k7.fr.up _ _ hr0))⟩, fun D2 nD2 => ?_⟩⟩
    have hrs2 : Runs c G2 as (sortR st.runs) := runs_same hrs k7.fr.up
    have hslen : (sortR st.runs).length ≤ 300 := hok.srt.few
    refine lc_make (c := c) (as.zip (sortR st.runs)) (fun p => V.ref p.1) (fun p => Hs10.passed st.pattern ⟨kind, value, time⟩ p.2) k7.fr.sub nD2 ?_ ?_ (fun y hy H8 G8 fr Y N hY => ⟨rfl, ?_⟩) (fun H8 G8 es fr nG8 e8 r8 => ?_)
    · rw [← zip_refs hrs2]
      exact SqL.lst (k7.fr.sub _ _ (k7.fr.up _ _ hr0))
    · rw [zip_len hrs2]
      omega
    · have hyr : RunOk st.pattern st.count y.2 := hok.srt.runs y.2 (List.of_mem_zip hy).2
      exact ⟨_, rfl, T.desk_stages ⟨dx, fr.keep k7.here⟩ ⟨_, rfl, _, rfl, _, rfl, T.desk_limit ⟨dx, fr.keep k7.here⟩ ⟨G8, sA, y.1, ev, st.pattern, y.2, ⟨st.count + 1, kind, value, time⟩, rfl, fr.sub, ((hst.same k7.fr.up).same fr.up).same fr.sub, hok.st, (zip_has hrs2 y hy).same fr.up, hyr.op, (hev2.same fr.up).same fr.sub, fun H9 G9 x9 f9 rx => hY H9 G9 x9 f9 rx⟩⟩⟩
    have k8 := k7.step fr
    rw [zip_snd (fun r => Hs10.passed st.pattern ⟨kind, value, time⟩ r) hrs2] at r8
    have ex8 := fr.keep ex7
    have eb8 := fr.keep eb7
    have et8 := fr.keep et7
    have eml8 := fr.keep eml7
    have gx8 := fr.stay ex7 gx
    have gb8 := fr.stay eb7 gb
    have gt8 := fr.stay et7 gt
    have r28 : Runs c G8 ms (Hs10.newRuns (srt st) ⟨kind, value, time⟩) := runs_same r2 fr.up
    have rall : Runs c G8 (es ++ ms) ((sortR st.runs).map (Hs10.passed st.pattern ⟨kind, value, time⟩) ++ Hs10.newRuns (srt st) ⟨kind, value, time⟩) := pair_app r28 r8
    have eslen := pair_len r8
    rw [List.length_map] at eslen
    have mslen := pair_len r28
    -- 11: the runs that are kept
    refine ⟨_, rfl, _, rfl, D2, ml, _, _, rfl, rfl, e8, eml8, ?_, fun cl ncl => ?_⟩
    · rw [List.length_map, List.length_map]
      omega
    have ecl : es.map V.ref ++ ms.map V.ref = (es ++ ms).map V.ref := List.map_append.symm
    rw [ecl]
    have s9 : Same H8 (upd H8 cl (.lst ((es ++ ms).map V.ref))) := same_new (Same.refl _) ncl _
    have e9 : upd H8 cl (.lst ((es ++ ms).map V.ref)) cl = some (.lst ((es ++ ms).map V.ref)) := upd_same
    generalize upd H8 cl (.lst ((es ++ ms).map V.ref)) = H9 at s9 e9
    refine ⟨cl, rfl, ⟨_, SqL.lst e9⟩, fun D3 nD3 => ?_⟩
    refine lc_pure ((es ++ ms).zip ((sortR st.runs).map (Hs10.passed st.pattern ⟨kind, value, time⟩) ++ Hs10.newRuns (srt st) ⟨kind, value, time⟩)) (fun p => V.ref p.1) (fun p => !p.2.open_.isEmpty && !kf.isShut p.2.path) (fun p => V.ref p.1) nD3 ?_ ?_ (fun y hy H10 s10 Y N hY hN => ⟨rfl, ?_⟩) (fun H10 s10 eD3 => ?_)
    · rw [← zip_refs rall]
      exact SqL.lst e9
    · rw [zip_len rall, List.length_append, List.length_map]
      omega
    · have hrr := (((zip_has rall y hy).same k8.fr.sub).same s9).same s10
      obtain ⟨rr, y0, z, q1, q2, hro, hri⟩ := id hrr
      refine ⟨_, rfl, T.run_open_ones hro ⟨Nat.zero_le _, fun el nel => ?_⟩⟩
      have s11 : Same H10 (upd H10 el (.lst [])) := same_new (Same.refl _) nel _
      refine ⟨.list (y.2.open_.map fun (t : Nat) => PyData.int ((t + 1 : Nat) : Int)), .list [], .lst (SqL.lst (s11 _ _ hri.op)) (dp_ints _), .lst (SqL.lst upd_same) .nil, shaped_ints _, by decide, _, rfl, ?_⟩
      rw [ne_nil]
      cases ho : y.2.open_.isEmpty with
      | true => exact iteF (iteF (hN _ s11 (by rw [ho]; rfl)))
      | false =>
        refine iteT ⟨_, rfl, x, dxx, _, rfl, s11 _ _ (s10 _ _ (s9 _ _ ex8)), fsSkip_no_is_shut _, _, rfl, x, y.1, b', kf, y.2, rfl, ⟨dxx, s11 _ _ (s10 _ _ (s9 _ _ ex8))⟩, s11 _ _ (s10 _ _ (s9 _ _ eb8)), hrr.same s11, _, rfl, ?_⟩
        cases hsh : kf.isShut y.2.path with
        | true => exact iteF (hN _ s11 (by rw [ho, hsh]; rfl))
        | false => exact iteT ⟨_, rfl, hY _ s11 (by rw [ho, hsh]; rfl)⟩
    have k10 := k8.more (s9.trans s10)
    have s810 : Same H8 H10 := s9.trans s10
    have rK0 := zip_filter (fun r : Hs10.Run => !r.open_.isEmpty && !kf.isShut r.path) rall
    have hkp : kepts st k ⟨kind, value, time⟩ = ((sortR st.runs).map (Hs10.passed st.pattern ⟨kind, value, time⟩) ++ Hs10.newRuns (srt st) ⟨kind, value, time⟩).filter fun r => !r.open_.isEmpty && !kf.isShut r.path := by
      unfold kepts
      rw [hkf]
    rw [← hkp] at rK0
    generalize hks : (((es ++ ms).zip ((sortR st.runs).map (Hs10.passed st.pattern ⟨kind, value, time⟩) ++ Hs10.newRuns (srt st) ⟨kind, value, time⟩)).filter fun p => !p.2.open_.isEmpty && !kf.isShut p.2.path).map (·.1) = ks at rK0
    have eK : H10 D3 = some (.lst (ks.map V.ref)) := by
      rw [← hks, List.map_map]
      exact eD3
    have klen : (ks.map V.ref).length = (kepts st k ⟨kind, value, time⟩).length := by rw [List.length_map, pair_len rK0]
    -- 12: not too many
    refine ⟨_, rfl, D3, _, rfl, .inl (SqL.lst eK), _, _, rfl, rfl, _, -9, rfl, fun hm2 => ?_, fun hm2 H' d s' _ ed => refuse (-9) (hrel.step_much kind value time c1 c2 (.inr ?_)) k10 H' d s' ed⟩
    rotate_left
    · have hm2 : decide ((((ks.map V.ref).length : Nat) : Int) ≤ ((300 : Nat) : Int)) = false := hm2
      rw [dLe, klen] at hm2
      have := of_decide_eq_false hm2
      omega
    have hm2 : decide ((((ks.map V.ref).length : Nat) : Int) ≤ ((300 : Nat) : Int)) = true := hm2
    rw [dLe, klen] at hm2
    have hm2 := of_decide_eq_true hm2
    have ex10 := s810 _ _ ex8
    have eb10 := s810 _ _ eb8
    have et10 := s810 _ _ et8
    have tT : tl ≠ PT := fun z => by
      obtain ⟨ps, e⟩ := tab_some k5.tab
      rw [← z, ntl] at e
      cases e
    have d3a : D3 ≠ a := Ne.symm (ne_of_none (s9 _ _ k8.here) nD3)
    -- 13: self.skip = skip
    refine ⟨_, rfl, _, rfl, a, c.cD, dx, _, rfl, k10.here, T.clDesk, T.nDesk_skip, (by show 7 < 1000; decide), ?_⟩
    rw [show putF "skip" (V.ref x) (fsDesk ⟨sA, st.pattern.within, kA, rA, st.count, st.now, st.told⟩) = fsDesk ⟨sA, st.pattern.within, x, rA, st.count, st.now, st.told⟩ from put_skip _ _]
    have k11 := k10.put (.ins c.cD dx (fsDesk ⟨sA, st.pattern.within, x, rA, st.count, st.now, st.told⟩)) (fun _ z => by cases z) (fun _ z => by cases z)
    have ex11 := (upd_ne (H := H10) (o := .ins c.cD dx (fsDesk ⟨sA, st.pattern.within, x, rA, st.count, st.now, st.told⟩)) xa).trans ex10
    have eb11 := (upd_ne (H := H10) (o := .ins c.cD dx (fsDesk ⟨sA, st.pattern.within, x, rA, st.count, st.now, st.told⟩)) ba).trans eb10
    have et11 := (upd_ne (H := H10) (o := .ins c.cD dx (fsDesk ⟨sA, st.pattern.within, x, rA, st.count, st.now, st.told⟩)) ta).trans et10
    have eK11 := (upd_ne (H := H10) (o := .ins c.cD dx (fsDesk ⟨sA, st.pattern.within, x, rA, st.count, st.now, st.told⟩)) d3a).trans eK
    generalize upd H10 a (.ins c.cD dx (fsDesk ⟨sA, st.pattern.within, x, rA, st.count, st.now, st.told⟩)) = H11 at k11 ex11 eb11 et11 eK11
    -- 14: self.kept = in_order(kept)
    refine ⟨_, rfl, D3, ks, kepts st k ⟨kind, value, time⟩, rfl, eK11, runs_same rK0 k11.fr.sub, kn_kepts hrel _, k11.tab, fun H12 rA2 bs2 old12 t12 n12 e12 pf12 => ?_⟩
    have k12 := k11.turn hne old12 t12
    have rK : Runs c G8 bs2 (sortR (kepts st k ⟨kind, value, time⟩)) := pf12 _ rK0
    have ex12 := old12 _ _ ex11 xT
    have eb12 := old12 _ _ eb11 bT
    have et12 := old12 _ _ et11 tT
    have hr0' := k11.fr.all.free n12
    have gr : G8 rA2 = none := k11.fr.sub.free n12
    have ra : rA2 ≠ a := Ne.symm (ne_of_none k11.here n12)
    have rT : rA2 ≠ PT := fun z => by
      obtain ⟨ps, e⟩ := tab_some k11.tab
      rw [← z, n12] at e
      cases e
    have rx : rA2 ≠ x := Ne.symm (ne_of_none ex11 n12)
    have rb : rA2 ≠ b' := Ne.symm (ne_of_none eb11 n12)
    refine ⟨_, rfl, a, c.cD, dx, _, rfl, k12.here, T.clDesk, T.nDesk_kept, (by show 7 < 1000; decide), ?_⟩
    rw [show putF "kept" (V.ref rA2) (fsDesk ⟨sA, st.pattern.within, x, rA, st.count, st.now, st.told⟩) = fsDesk ⟨sA, st.pattern.within, x, rA2, st.count, st.now, st.told⟩ from put_kept _ _]
    have k13 := k12.put (.ins c.cD dx (fsDesk ⟨sA, st.pattern.within, x, rA2, st.count, st.now, st.told⟩)) (fun _ z => by cases z) (fun _ z => by cases z)
    have oth : ∀ {Hh : Hp} {u : HO} {p : Addr} {v : HO}, p ≠ a → Hh p = some v → upd Hh a u p = some v := fun hp h => (upd_ne hp).trans h
    -- 15: self.came = event.number
    refine ⟨_, rfl, T.event_number ((hev2.same fr.up).same k13.fr.sub) ⟨_, rfl, a, c.cD, dx, _, rfl, k13.here, T.clDesk, T.nDesk_came, (by show 7 < 1000; decide), ?_⟩⟩
    rw [show putF "came" (V.int ((st.count + 1 : Nat) : Int)) (fsDesk ⟨sA, st.pattern.within, x, rA2, st.count, st.now, st.told⟩) = fsDesk ⟨sA, st.pattern.within, x, rA2, st.count + 1, st.now, st.told⟩ from put_came _ _]
    have k14 := k13.put (.ins c.cD dx (fsDesk ⟨sA, st.pattern.within, x, rA2, st.count + 1, st.now, st.told⟩)) (fun _ z => by cases z) (fun _ z => by cases z)
    -- 16: self.now = time
    refine ⟨_, rfl, _, rfl, a, c.cD, dx, _, rfl, k14.here, T.clDesk, T.nDesk_now, (by show 7 < 1000; decide), ?_⟩
    rw [show putF "now" (I time) (fsDesk ⟨sA, st.pattern.within, x, rA2, st.count + 1, st.now, st.told⟩) = fsDesk ⟨sA, st.pattern.within, x, rA2, st.count + 1, time, st.told⟩ from put_now _ _]
    have k15 := k14.put (.ins c.cD dx (fsDesk ⟨sA, st.pattern.within, x, rA2, st.count + 1, time, st.told⟩)) (fun _ z => by cases z) (fun _ z => by cases z)
    have ex15 := oth (u := .ins c.cD dx (fsDesk ⟨sA, st.pattern.within, x, rA2, st.count + 1, time, st.told⟩)) xa (oth (u := .ins c.cD dx (fsDesk ⟨sA, st.pattern.within, x, rA2, st.count + 1, st.now, st.told⟩)) xa (oth (u := .ins c.cD dx (fsDesk ⟨sA, st.pattern.within, x, rA2, st.count, st.now, st.told⟩)) xa ex12))
    have eb15 := oth (u := .ins c.cD dx (fsDesk ⟨sA, st.pattern.within, x, rA2, st.count + 1, time, st.told⟩)) ba (oth (u := .ins c.cD dx (fsDesk ⟨sA, st.pattern.within, x, rA2, st.count + 1, st.now, st.told⟩)) ba (oth (u := .ins c.cD dx (fsDesk ⟨sA, st.pattern.within, x, rA2, st.count, st.now, st.told⟩)) ba eb12))
    have et15 := oth (u := .ins c.cD dx (fsDesk ⟨sA, st.pattern.within, x, rA2, st.count + 1, time, st.told⟩)) ta (oth (u := .ins c.cD dx (fsDesk ⟨sA, st.pattern.within, x, rA2, st.count + 1, st.now, st.told⟩)) ta (oth (u := .ins c.cD dx (fsDesk ⟨sA, st.pattern.within, x, rA2, st.count, st.now, st.told⟩)) ta et12))
    have er15 := oth (u := .ins c.cD dx (fsDesk ⟨sA, st.pattern.within, x, rA2, st.count + 1, time, st.told⟩)) ra (oth (u := .ins c.cD dx (fsDesk ⟨sA, st.pattern.within, x, rA2, st.count + 1, st.now, st.told⟩)) ra (oth (u := .ins c.cD dx (fsDesk ⟨sA, st.pattern.within, x, rA2, st.count, st.now, st.told⟩)) ra e12))
    generalize upd (upd (upd H12 a (.ins c.cD dx (fsDesk ⟨sA, st.pattern.within, x, rA2, st.count, st.now, st.told⟩))) a (.ins c.cD dx (fsDesk ⟨sA, st.pattern.within, x, rA2, st.count + 1, st.now, st.told⟩))) a (.ins c.cD dx (fsDesk ⟨sA, st.pattern.within, x, rA2, st.count + 1, time, st.told⟩)) = H15 at k15 ex15 eb15 et15 er15
    -- 17: how many were told
    have rslen : ts.length = rs.length := pair_len r7
    have e17 : putF "many_told" (V.int ((st.told : Int) + (((ts.map V.ref).length : Nat) : Int))) (fsDesk ⟨sA, st.pattern.within, x, rA2, st.count + 1, time, st.told⟩) = fsDesk ⟨sA, st.pattern.within, x, rA2, st.count + 1, time, st.told + rs.length⟩ := by
      rw [List.length_map, rslen]
      exact put_many_told _ (st.told + rs.length)
    refine ⟨_, rfl, T.desk_many_told ⟨dx, k15.here⟩ ⟨_, rfl, tl, _, rfl, .inl (SqL.lst et15), _, _, rfl, rfl, _, rfl, a, c.cD, dx, _, rfl, k15.here, T.clDesk, T.nDesk_many_told, (by show 7 < 1000; decide), ?_⟩⟩
    have k16 := k15.put (.ins c.cD dx (putF "many_told" (V.int ((st.told : Int) + (((ts.map V.ref).length : Nat) : Int))) (fsDesk ⟨sA, st.pattern.within, x, rA2, st.count + 1, time, st.told⟩))) (fun _ z => by cases z) (fun _ z => by cases z)
    have ex16 := oth (u := .ins c.cD dx (putF "many_told" (V.int ((st.told : Int) + (((ts.map V.ref).length : Nat) : Int))) (fsDesk ⟨sA, st.pattern.within, x, rA2, st.count + 1, time, st.told⟩))) xa ex15
    have eb16 := oth (u := .ins c.cD dx (putF "many_told" (V.int ((st.told : Int) + (((ts.map V.ref).length : Nat) : Int))) (fsDesk ⟨sA, st.pattern.within, x, rA2, st.count + 1, time, st.told⟩))) ba eb15
    have et16 := oth (u := .ins c.cD dx (putF "many_told" (V.int ((st.told : Int) + (((ts.map V.ref).length : Nat) : Int))) (fsDesk ⟨sA, st.pattern.within, x, rA2, st.count + 1, time, st.told⟩))) ta et15
    have er16 := oth (u := .ins c.cD dx (putF "many_told" (V.int ((st.told : Int) + (((ts.map V.ref).length : Nat) : Int))) (fsDesk ⟨sA, st.pattern.within, x, rA2, st.count + 1, time, st.told⟩))) ra er15
    -- 18: found = [len(told)]
    refine ⟨_, rfl, tl, _, rfl, .inl (SqL.lst et16), by show 1 ≤ sizeLine; decide, fun fl nfl => ?_⟩
    have s17 := same_new (Same.refl _) nfl (.lst [.int (((ts.map V.ref).length : Nat) : Int)])
    have k17 := k16.more s17
    have ex17 := s17 _ _ ex16
    have eb17 := s17 _ _ eb16
    have et17 := s17 _ _ et16
    have er17 := s17 _ _ er16
    have nfl' := nfl
    have ef17 : upd _ fl (.lst [.int (((ts.map V.ref).length : Nat) : Int)]) fl = some _ := upd_same (H := upd H15 a (.ins c.cD dx (putF "many_told" (V.int ((st.told : Int) + (((ts.map V.ref).length : Nat) : Int))) (fsDesk ⟨sA, st.pattern.within, x, rA2, st.count + 1, time, st.told⟩))))
    have hf0 := k16.fr.all.free nfl
    have gf : G8 fl = none := k16.fr.sub.free nfl
    have fa : fl ≠ a := Ne.symm (ne_of_none k16.here nfl)
    have fx : x ≠ fl := ne_of_none ex16 nfl
    have fb : b' ≠ fl := ne_of_none eb16 nfl
    have ft : tl ≠ fl := ne_of_none et16 nfl
    have frr : rA2 ≠ fl := ne_of_none er16 nfl
    generalize upd (upd H15 a (.ins c.cD dx (putF "many_told" (V.int ((st.told : Int) + (((ts.map V.ref).length : Nat) : Int))) (fsDesk ⟨sA, st.pattern.within, x, rA2, st.count + 1, time, st.told⟩)))) fl (.lst [.int (((ts.map V.ref).length : Nat) : Int)]) = H17 at k17 ex17 eb17 et17 er17 ef17
    rw [e17] at k17
    have r78 : Runs c G8 ts rs := runs_same r7 fr.up
    have hrsok : ∀ r ∈ rs, RunOk st.pattern (st.count + 1) r := fun r hr' => by
      have h1 : r ∈ (telling (k, []) (ends st ⟨kind, value, time⟩)).2 := by
        rw [hkf]
        exact hr'
      rcases telling_mem _ _ _ r h1 with z | z
      · cases z
      · exact new_ok hok _ r (ends_mem z)
    have hrsl : rs.length ≤ 300 := by
      have h1 := telling_len (ends st ⟨kind, value, time⟩) k []
      rw [hkf, List.length_nil] at h1
      have h2 : rs.length ≤ 0 + (ends st ⟨kind, value, time⟩).length := h1
      omega
    -- 19: the loop over what is told
    refine ⟨_, rfl, tl, rfl, ⟨_, SqL.lst et17⟩, ?_⟩
    refine for_list (K := K) (a := tl) (xs := ts.map V.ref) (fun i σ H18 => ∃ v9, σ = [some (.ref a), some (I kind), some (I value), some (I time), some (.ref ev), some (.ref ml), some (.ref mA), some (.ref x), some (.ref tl), v9, some (.ref D2), some (.ref D3), some (.ref fl), none] ∧
      Ek PT a H G0 (.ins c.cD dx (fsDesk ⟨sA, st.pattern.within, x, rA2, st.count + 1, time, st.told + rs.length⟩)) H18 G8 ∧ (∀ b u, H17 b = some u → b ≠ fl → H18 b = some u) ∧ H18 fl = some (.lst ((rs.length :: (rs.take i).flatMap fun r => Hs10.pathTold r.path).map I)))
      ⟨_, rfl, k17, fun _ _ e _ => e, by rw [ef17, List.length_map, rslen]; rfl⟩ (fun i σ H18 _ ⟨_, _, _, old18, _⟩ => SqL.lst (old18 _ _ et17 ft)) ?_ ?_
    · rintro i y σ H18 hy ⟨v9', rfl, k18, old18, ef18⟩
      obtain ⟨m, hm', rfl⟩ := get_map hy
      obtain ⟨r, hr', hrr⟩ := pair_get r78 hm'
      have hpl := (hrsok r (List.mem_of_getElem? hr')).len
      refine ⟨_, rfl, tyL ef18, _, rfl, m, r, rfl, hrr.same k18.fr.sub, by omega, fun H19 l2 s19 n19 e19 => ?_⟩
      have ef19 := s19 _ _ ef18
      have k19 := k18.more s19
      refine ⟨fl, l2, _, _, rfl, rfl, ef19, e19, ?_, _, rfl, k19.poke (.lst ((rs.length :: (rs.take i).flatMap fun r => Hs10.pathTold r.path).map I ++ (Hs10.pathTold r.path).map I)) ef19 (fun _ z => by cases z) (fun _ z => by cases z) hf0 gf fa, fun b u hb hne' => ?_, ?_⟩
      · rw [List.length_map, List.length_map, List.length_cons, pathTold_len]
        have g2 := flat_len (fun r : Hs10.Run => Hs10.pathTold r.path) 2003 (rs.take i) fun y hy => by
          have := (hrsok y (List.mem_of_mem_take hy)).len
          rw [pathTold_len]
          omega
        rw [List.length_take] at g2
        have g3 : 2003 * min i rs.length ≤ 2003 * 300 := Nat.mul_le_mul_left _ (by omega)
        omega
      · rw [upd_ne hne']
        exact s19 _ _ (old18 b u hb hne')
      · rw [upd_same, take_next hr', List.flatMap_append, List.flatMap_cons, List.flatMap_nil, List.append_nil, ← List.map_append]
        rfl
    rintro σ H18 ⟨v9', rfl, k18, old18, ef18⟩
    rw [List.length_map, rslen, List.take_length] at ef18
    -- 20: what is ours in the end
    have ex18 := old18 _ _ ex17 fx
    have eb18 := old18 _ _ eb17 fb
    have er18 := old18 _ _ er17 frr
    have kx := k18.add hx0 ex18 xa xT
    have gb9 : upd G8 x (.ins c.cK dxx (fsSkip ⟨kf.way, kf.pivot, kf.shut, b'⟩)) b' = none := (upd_ne (Ne.symm xb)).trans gb8
    have kb := kx.add hb0' eb18 ba bT
    have gr9 : upd (upd G8 x (.ins c.cK dxx (fsSkip ⟨kf.way, kf.pivot, kf.shut, b'⟩))) b' (.dK (bk kf.begins)) rA2 = none := (upd_ne rb).trans ((upd_ne rx).trans gr)
    have kr := kb.add hr0' er18 ra rT
    have u1 : Same G8 (upd G8 x (.ins c.cK dxx (fsSkip ⟨kf.way, kf.pivot, kf.shut, b'⟩))) := same_new (Same.refl _) gx8 _
    have u2 : Same (upd G8 x (.ins c.cK dxx (fsSkip ⟨kf.way, kf.pivot, kf.shut, b'⟩))) (upd (upd G8 x (.ins c.cK dxx (fsSkip ⟨kf.way, kf.pivot, kf.shut, b'⟩))) b' (.dK (bk kf.begins))) := same_new (Same.refl _) gb9 _
    have u3 : Same (upd (upd G8 x (.ins c.cK dxx (fsSkip ⟨kf.way, kf.pivot, kf.shut, b'⟩))) b' (.dK (bk kf.begins))) (upd (upd (upd G8 x (.ins c.cK dxx (fsSkip ⟨kf.way, kf.pivot, kf.shut, b'⟩))) b' (.dK (bk kf.begins))) rA2 (.lst (bs2.map V.ref))) := same_new (Same.refl _) gr9 _
    have tlen : (Hs10.tells st ⟨kind, value, time⟩).length = rs.length := by
      rw [← (hrel.told ⟨kind, value, time⟩).1, List.length_map, hkf]
    have newF : New PT H (upd G0 a (.ins c.cD dx (fsDesk ⟨sA, st.pattern.within, kA, rA, st.count, st.now, st.told⟩))) fl := fun b o hb _ hbT z => by
      rw [hid_no (fun y => by rcases y with y | y; exact fa y; exact hbT (z.symm.trans y)), z, hb] at hf0
      cases hf0
    have hstep := hrel.step_event kind value time c1 c2 hm hm2
    rw [hkf] at hstep
    have hbeh := hrel.behind ⟨kind, value, time⟩ hm hm2
    rw [hkf] at hbeh
    refine ⟨_, rfl, qG (Hs10.comes st ⟨kind, value, time⟩) kf (rs.length :: rs.flatMap fun r => Hs10.pathTold r.path) hstep hbeh rfl H18 _ fl (kr.out hne _) newF ⟨_, dx, sA, x, rA2, b', bs2, kr.noA, ?_, hst.same kr.fr.up, ⟨dxx, u3 _ _ (u2 _ _ upd_same)⟩, u3 _ _ upd_same, upd_same, ?_⟩ ef18⟩
    · show upd _ a (.ins c.cD dx (fsDesk ⟨sA, st.pattern.within, x, rA2, st.count + 1, time, st.told + rs.length⟩)) = upd _ a (.ins c.cD dx (fsDesk ⟨sA, st.pattern.within, x, rA2, st.count + 1, time, st.told + (Hs10.tells st ⟨kind, value, time⟩).length⟩))
      rw [tlen]
    · show Runs c _ bs2 (sortR (Hs10.kept st ⟨kind, value, time⟩))
      rw [← hrel.kepts_sort]
      exact runs_same rK ((u1.trans u2).trans u3)
end
end G

/-! ## PRd15 -/
/-! watcher: of_call, answer. -/
namespace G
open PySem PySem.Spec PyProof.Rows L2
theorem tab_keep {H H' : Hp} {PT p : Addr} {o : HO} (t : Tb H PT) (h : H p = some o) (h1 : ∀ ps, o ≠ .tbl ps) (h2 : ∀ phi, o ≠ .ext phi) (s : ∀ b u, H b = some u → b ≠ p → H' b = some u) : Tb H' PT := by
  obtain ⟨ps, e, tk, tc⟩ := t
  have hne : PT ≠ p := fun z => by
    rw [z, h] at e
    exact h1 ps (Option.some.inj e)
  refine ⟨ps, s _ _ e hne, tk, fun pos cv hc => ?_⟩
  obtain ⟨c0, e1, e2⟩ := tc pos cv hc
  refine ⟨c0, e1, s _ _ e2 fun z => ?_⟩
  rw [z, h] at e2
  exact h2 _ (Option.some.inj e2)
theorem Out.same {PT : Addr} {H G H' : Hp} (s0 : Same G H) (n : G PT = none) (t : Tb H PT) (s : Same H H') : Out PT H G H' G := ⟨s0.trans s, fun _ _ h hG _ => ⟨s _ _ h, hG⟩, t.ext s, n⟩
theorem Out.more {PT : Addr} {H G H' G' H'' : Hp} (k : Out PT H G H' G') (s : Same H' H'') : Out PT H G H'' G' := ⟨k.sub.trans s, fun b u h hG hb => let ⟨x, y⟩ := k.old b u h hG hb; ⟨s _ _ x, y⟩, k.tab.ext s, k.noT⟩
theorem New.of {PT : Addr} {H G : Hp} {l : Addr} (h : H l = none) : New PT H G l := fun b o hb _ _ z => by
  rw [← z, h] at hb
  cases hb
theorem New.out {PT : Addr} {H G H' G' : Hp} {l : Addr} (k : Out PT H G H' G') (h : H' l = none) : New PT H G l := fun b o hb hG hT z => by
  obtain ⟨e, _⟩ := k.old b o hb hG hT
  rw [← z, h] at e
  cases e
theorem stages_of {ns : List Nat} {way pivot limit : Nat} (h : Hs10.patternBad way pivot limit ns = none) : Rel (Hs10.fresh ⟨way, pivot - 1, limit, Hs10.sixes ns⟩) (Sk.new way pivot) := by
  unfold Hs10.patternBad at h
  split at h
  · cases h
  rename_i c1
  split at h
  · cases h
  rename_i c2
  split at h
  · cases h
  split at h
  · cases h
  rename_i c4
  have hl : ns.length = 6 * (ns.length / 6) := by omega
  have h6 := sixes_len _ ns hl
  refine rel_fresh ⟨fun x hx => ?_, ?_, ?_⟩ ⟨rfl, ?_, fun h3 => ?_⟩ rfl rfl
  · have hx := (List.all_eq_true.mp (by simpa using c2)) x hx
    unfold Hs10.isStage at hx
    simp only [Bool.and_eq_true, decide_eq_true_eq] at hx
    omega
  · show 1 ≤ (Hs10.sixes ns).length
    omega
  · show (Hs10.sixes ns).length ≤ 8
    omega
  · show way ≤ 3
    omega
  · have h3 : way = 3 := h3
    show pivot = pivot - 1 + 1
    omega
section
variable {P : Program} {w : World} {K : PySem.W.Frag} {mg : Str → Option Value} {base : Heap} {c : Cs} {C fI : Addr}
/-! ### of_call -/
def spOf (K : PySem.W.Frag) (c : Cs) (C PT : Addr) : Sp := fun vs H Q E => ∃ (G : Hp) (a oA rA : Addr) (s : Hs10.St) (k : Sk) (x : Hs10.Call), vs = [.ref a, I (codeOf x), .ref oA, .ref rA] ∧ SqL K H oA ((ownOf x).map I) ∧ SqL K H rA ((rowOf x).map I) ∧
  Same G H ∧ G PT = none ∧ Tb H PT ∧ DeskAt c G a s k ∧ Rel s k ∧ s.count ≤ 1000 ∧
  (∀ n : Int, Hs10.step s x = (s, [n]) → ∀ H' G' d, Out PT H G H' G' → DeskAt c G' a s k → H' d = some (.xd [("number", .int n)]) → E (.ref C) (some d) H') ∧
  (∀ s' k' ns, Hs10.step s x = (s', ns) → Rel s' k' → s'.count ≤ s.count + 1 → ∀ H' G' l, Out PT H G H' G' → New PT H G l → DeskAt c G' a s' k' → H' l = some (.lst (ns.map V.int)) → Q (.ref l) H')
abbrev sOf : Stmt := top 61
theorem scOf : FnScope ["desk", "call", "own", "row"] ["desk", "call", "own", "row"] (defScope sOf) := ⟨rfl, rfl, rfl, by decide +kernel, rfl, by decide +kernel, by decide +kernel⟩
theorem ok_of {f fP fE fR fC fF : Addr} {fd fdP fdE fdR fdC fdF : FuncData} {PT : Addr} (F : Fun K "of_call" "of_call" sOf f fd) (T : Txt K c)
    (MP : Mt K c.cD "pattern" "Desk.pattern" sPattern ["self", "way", "pivot", "limit", "numbers"] fP fdP) (GP : FnOk P w K mg base (L2.CX P w) 4 fP fdP ["self", "way", "pivot", "limit", "numbers"] (spPattern K c C))
    (ME : Mt K c.cD "event" "Desk.event" sEvent ["self", "kind", "value", "time"] fE fdE) (GE : FnOk P w K mg base (L2.CX P w) 6 fE fdE ["self", "kind", "value", "time"] (spEvent c C PT))
    (MR : Mt K c.cD "runs" "Desk.runs" sRuns ["self"] fR fdR) (GR : FnOk P w K mg base CX0 2 fR fdR ["self"] (spRuns c))
    (MC : Mt K c.cD "counts" "Desk.counts" sCounts ["self"] fC fdC) (GC : FnOk P w K mg base CX0 1 fC fdC ["self"] (spCounts c))
    (MF : Mt K c.cD "earliest" "Desk.earliest" sFirst ["self"] fF fdF) (GF : FnOk P w K mg base CX0 2 fF fdF ["self"] (spFirst c))
    (mP : CI mg "PATTERN" 0) : FnOk P w K mg base (L2.CX P w) 7 f fd ["desk", "call", "own", "row"] (spOf K c C PT) := by
  obtain ⟨_, mP⟩ := mP
  refine F.okX scOf ?_ ?_
  · rintro vs H Q E ⟨G, a, oA, rA, s, k, x, rfl, _⟩
    rfl
  · intro cdv A outer s H vs Q E hr h
    have hr1 : Room 1 _ := hr.mono (by decide)
    have hr2 : Room 2 _ := hr.mono (by decide)
    have hr4 : Room 4 _ := hr.mono (by decide)
    refine ⟨_, (pss_cons (ps_if (pt_cmpR op_eq (pv 1) (pe_glob (v := .int 0) rfl mP ⟨_, rfl⟩) (nomark _)) (pss_one (ps_ret (pe_meth (pv 0) T.clDesk MP.m GP hr4 MP.b .nil (passes_call (takes_of (E := E) rfl rfl rfl rfl) (fun _ _ _ _ h => h)) (pa_cons (pe_ix ix_list (pv 2) pe_int (fun _ _ => rfl)) (pa_cons (pe_ix ix_list (pv 2) pe_int (fun _ _ => rfl)) (pa_cons (pe_ix ix_list (pv 2) pe_int (fun _ _ => rfl)) (pa_cons (pv 3) pa_nil))))))) pss_nil)
      (pss_cons (ps_if (pt_cmpR op_eq (pv 1) pe_int (nomark _)) (pss_one (ps_ret (pe_meth (pv 0) T.clDesk ME.m GE hr ME.b .nil (passes_call (takes_of (E := E) rfl rfl rfl rfl) (fun _ _ _ _ h => h)) (pa_cons (pe_ix ix_list (pv 2) pe_int (fun _ _ => rfl)) (pa_cons (pe_ix ix_list (pv 2) pe_int (fun _ _ => rfl)) (pa_cons (pe_ix ix_list (pv 2) pe_int (fun _ _ => rfl)) pa_nil)))))) pss_nil)
      (pss_cons (ps_if (pt_cmpR op_eq (pv 1) pe_int (nomark _)) (pss_one (ps_ret (pe_meth0 (pv 0) T.clDesk MR.m GR hr2 MR.b .nil pass0))) pss_nil)
      (pss_cons (ps_if (pt_cmpR op_eq (pv 1) pe_int (nomark _)) (pss_one (ps_ret (pe_meth0 (pv 0) T.clDesk MC.m GC hr1 MC.b .nil pass0))) pss_nil)
      (pss_one (ps_ret (pe_meth0 (pv 0) T.clDesk MF.m GF hr2 MF.b .nil pass0))))))), ?_⟩
    obtain ⟨G, a, oA, rA, st, k, x, rfl, hO, hR, sG, nT, tT, hd, hrel, hcnt, qB, qG⟩ := h
    have hdi : DeskIn c H a st k := hd.inn.same sG
    have fin : ∀ ns : List Nat, Hs10.step st x = (st, Hs10.ints ns) → ∀ H' l, Same H H' → H l = none → H' l = some (.lst (ns.map I)) → Q (.ref l) H' := fun ns hs H' l s' nl el =>
      qG st k _ hs hrel (Nat.le_succ _) H' G l (Out.same sG nT tT s') (New.of nl) hd (by rw [ints_map]; exact el)
    obtain ⟨G0, dx, sA, kA, rA0, b0, as, n0, hG, _⟩ := id hd
    have ha : G a = some (.ins c.cD dx (fsDesk ⟨sA, st.pattern.within, kA, rA0, st.count, st.now, st.told⟩)) := by rw [hG]; exact upd_same
    have hda := sG _ _ ha
    cases x with
    | pattern way pivot limit ns =>
      refine ⟨_, rfl, rfl, _, rfl, ifd (dE 0 0) (fun _ => ?_) (fun z => absurd rfl z)⟩
      refine ⟨_, rfl, a, dx, _, rfl, hda, fsDesk_no_pattern _, _, rfl, oA, _, _, _, rfl, rfl, hO, atI_nat (xs := [I way, I pivot, I limit]) (j := 0) (v := I way) rfl, ?_⟩
      refine ⟨_, rfl, oA, _, _, _, rfl, rfl, hO, atI_nat (xs := [I way, I pivot, I limit]) (j := 1) (v := I pivot) rfl, _, rfl, oA, _, _, _, rfl, rfl, hO, atI_nat (xs := [I way, I pivot, I limit]) (j := 2) (v := I limit) rfl, _, rfl, ?_⟩
      refine ⟨G, a, rA, st, k, way, pivot, limit, ns, rfl, sG, hd, hR, fun n hn H' d s' ed => ?_, fun hn H' G' l sG' old nl hd' el => ?_⟩
      · refine qB n ?_ H' G d (Out.same sG nT tT s') hd ed
        show (match Hs10.patternBad way pivot limit ns with
          | some n => (st, [n])
          | none => (Hs10.fresh ⟨way, pivot - 1, limit, Hs10.sixes ns⟩, Hs10.ints [ns.length / 6])) = _
        rw [hn]
      · have hPT : PT ≠ a := fun z => by
          rw [z, ha] at nT
          cases nT
        obtain ⟨ps, ePT⟩ := tab_some tT
        refine qG _ _ (Hs10.ints [ns.length / 6]) ?_ (stages_of hn) (Nat.zero_le _) H' G' l ⟨sG', fun b u hb hGb _ => old b u hb fun z => ?_, tab_keep tT hda (fun _ z => by cases z) (fun _ z => by cases z) fun b u hb hne => (old b u hb hne).1, (old _ _ ePT hPT).2⟩ (New.of nl) hd' (by rw [ints_map]; exact el)
        · show (match Hs10.patternBad way pivot limit ns with
            | some n => (st, [n])
            | none => (Hs10.fresh ⟨way, pivot - 1, limit, Hs10.sixes ns⟩, Hs10.ints [ns.length / 6])) = _
          rw [hn]
        · rw [z, ha] at hGb
          cases hGb
    | event kind value time =>
      refine ⟨_, rfl, rfl, _, rfl, ifd (dE 1 0) (fun z => absurd z (by decide)) (fun _ => ?_)⟩
      refine ⟨_, rfl, rfl, _, rfl, ifd (dE 1 1) (fun _ => ?_) (fun z => absurd rfl z)⟩
      refine ⟨_, rfl, a, dx, _, rfl, hda, fsDesk_no_event _, _, rfl, oA, _, _, _, rfl, rfl, hO, atI_nat (xs := [I kind, I value, I time]) (j := 0) (v := I kind) rfl, ?_⟩
      refine ⟨_, rfl, oA, _, _, _, rfl, rfl, hO, atI_nat (xs := [I kind, I value, I time]) (j := 1) (v := I value) rfl, _, rfl, oA, _, _, _, rfl, rfl, hO, atI_nat (xs := [I kind, I value, I time]) (j := 2) (v := I time) rfl, ?_⟩
      refine ⟨G, a, st, k, kind, value, time, rfl, sG, nT, tT, hd, hrel, hcnt, qB, fun s' k' ns hs hr' hc H' G' l ho hn hd' el => ?_⟩
      exact qG s' k' (Hs10.ints ns) hs hr' (Nat.le_of_eq hc) H' G' l ho hn hd' (by rw [ints_map]; exact el)
    | runs =>
      refine ⟨_, rfl, rfl, _, rfl, ifd (dE 2 0) (fun z => absurd z (by decide)) (fun _ => ?_)⟩
      refine ⟨_, rfl, rfl, _, rfl, ifd (dE 2 1) (fun z => absurd z (by decide)) (fun _ => ?_)⟩
      refine ⟨_, rfl, rfl, _, rfl, ifd (dE 2 2) (fun _ => ?_) (fun z => absurd rfl z)⟩
      exact ⟨_, rfl, a, dx, _, rfl, hda, fsDesk_no_runs _, a, st, k, rfl, hdi, hrel.ok, by omega, fun H' l s' nl el => fin _ rfl H' l s' nl el⟩
    | counts =>
      refine ⟨_, rfl, rfl, _, rfl, ifd (dE 3 0) (fun z => absurd z (by decide)) (fun _ => ?_)⟩
      refine ⟨_, rfl, rfl, _, rfl, ifd (dE 3 1) (fun z => absurd z (by decide)) (fun _ => ?_)⟩
      refine ⟨_, rfl, rfl, _, rfl, ifd (dE 3 2) (fun z => absurd z (by decide)) (fun _ => ?_)⟩
      refine ⟨_, rfl, rfl, _, rfl, ifd (dE 3 3) (fun _ => ?_) (fun z => absurd rfl z)⟩
      exact ⟨_, rfl, a, dx, _, rfl, hda, fsDesk_no_counts _, a, st, k, rfl, hdi, fun H' l s' nl el => fin _ rfl H' l s' nl el⟩
    | first =>
      refine ⟨_, rfl, rfl, _, rfl, ifd (dE 4 0) (fun z => absurd z (by decide)) (fun _ => ?_)⟩
      refine ⟨_, rfl, rfl, _, rfl, ifd (dE 4 1) (fun z => absurd z (by decide)) (fun _ => ?_)⟩
      refine ⟨_, rfl, rfl, _, rfl, ifd (dE 4 2) (fun z => absurd z (by decide)) (fun _ => ?_)⟩
      refine ⟨_, rfl, rfl, _, rfl, ifd (dE 4 3) (fun z => absurd z (by decide)) (fun _ => ?_)⟩
      exact ⟨_, rfl, a, dx, _, rfl, hda, fsDesk_no_earliest _, a, st, k, rfl, hdi, hrel.ok, fun H' l s' nl el => fin _ rfl H' l s' nl el⟩
end
end G

/-! ## PRd16 -/
/-! watcher: answer. -/
namespace G
open PySem PySem.Spec PyProof.Rows L2
section
variable {P : Program} {w : World} {K : PySem.W.Frag} {mg : Str → Option Value} {base : Heap} {c : Cs} {C fI : Addr}
def spAnswer (K : PySem.W.Frag) (c : Cs) (PT : Addr) : Sp := fun vs H Q _ => ∃ (G : Hp) (a oA rA : Addr) (s : Hs10.St) (k : Sk) (x : Hs10.Call), vs = [.ref a, I (codeOf x), .ref oA, .ref rA] ∧ SqL K H oA ((ownOf x).map I) ∧ SqL K H rA ((rowOf x).map I) ∧
  Same G H ∧ G PT = none ∧ Tb H PT ∧ DeskAt c G a s k ∧ Rel s k ∧ s.count ≤ 1000 ∧
  (∀ s' k' ns, Hs10.step s x = (s', ns) → Rel s' k' → s'.count ≤ s.count + 1 → ∀ H' G' l, Out PT H G H' G' → New PT H G l → DeskAt c G' a s' k' → H' l = some (.lst (ns.map V.int)) → Q (.ref l) H')
abbrev sAnswer : Stmt := top 62
theorem scAnswer : FnScope ["desk", "call", "own", "row", "found", "e"] ["desk", "call", "own", "row"] (defScope sAnswer) := ⟨rfl, rfl, rfl, by decide +kernel, rfl, by decide +kernel, by decide +kernel⟩
theorem ok_answer {f fO : Addr} {fd fdO : FuncData} {PT : Addr} (F : Fun K "answer" "answer" sAnswer f fd) (R : RTxt K mg C fI)
    (DO : Df K mg "of_call" sOf ["desk", "call", "own", "row"] fO fdO) (GO : FnOk P w K mg base (L2.CX P w) 7 fO fdO ["desk", "call", "own", "row"] (spOf K c C PT)) :
    FnOk P w K mg base CX0 8 f fd ["desk", "call", "own", "row"] (spAnswer K c PT) := by
  refine F.ok scAnswer ?_ ?_
  · rintro vs H Q E ⟨G, a, oA, rA, s, k, x, rfl, _⟩
    rfl
  · intro cdv A outer s H vs Q E hr h
    refine ⟨_, (pss_cons (ps_try_as (i := 5) (tb := fun W => tAsg (tCallS (spOf K c C PT) (WE W) (tCons (tVar 0) (tCons (tVar 1) (tCons (tVar 2) (tCons (tVar 3) tNil))))) (gName 4)) (ts := fun a cls d => tAsg (tLst (tCons (tXf a cls d C "number" (tVar 5)) tNil)) (gName 4)) (Wout := fun _ _ _ _ => False) rfl rfl scAnswer.nd rfl rfl ⟨rfl, by decide, Or.inl R.g⟩ takes0 (fun W pn xe tk _ => pss_one (ps_set (i := 4) scAnswer.nd rfl (Or.inl rfl) (pe_callS GO hr rfl DO.g DO.F.kp DO.b (fun σ => passAt tk σ) (pa_cons (pv 0) (pa_cons (pv 1) (pa_cons (pv 2) (pa_cons (pv 3) pa_nil))))))) (fun a oe cls d pn hz hf => pss_one (ps_set (i := 4) scAnswer.nd rfl (Or.inl rfl) (pe_lst (pa_cons (pe_xf R.xf R.no hz hf (pv 5)) pa_nil)))))
      (pss_one (ps_ret (pv 4)))), ?_⟩
    obtain ⟨G, a, oA, rA, st, k, x, rfl, hO, hR, sG, nT, tT, hd, hrel, hcnt, qG⟩ := h
    refine ⟨_, rfl, _, rfl, _, rfl, _, rfl, G, a, oA, rA, st, k, x, rfl, hO, hR, sG, nT, tT, hd, hrel, hcnt, fun n hn H' G' d ho hd' ed => ?_, fun s' k' ns hs hr' hc H' G' l ho hn hd' el => ?_⟩
    · refine ⟨true, R.te, fun _ z hz => ?_, fun q => Bool.noConfusion q⟩
      refine ⟨_, rfl, rfl, rfl, d, _, _, rfl, ed, rfl, by show 1 ≤ sizeLine; decide, fun l nl => ?_⟩
      exact ⟨_, rfl, qG st k [n] hn hrel (Nat.le_succ _) _ G' l (ho.more (same_new (Same.refl _) nl _)) (New.out ho nl) hd' upd_same⟩
    · exact ⟨_, rfl, qG s' k' ns hs hr' hc H' G' l ho hn hd' el⟩
end
end G

/-! ## PRd17 -/
/-! watcher: answers. -/
namespace G
open PySem PySem.Spec PyProof.Rows L2
theorem cut_mid (A B D : List V) (lo hi : Int) (h1 : lo = (A.length : Int)) (h2 : hi = ((A.length + B.length : Nat) : Int)) : cutV (A ++ (B ++ D)) (some lo) (some hi) = B := by
  subst h1 h2
  unfold cutV
  rw [HT.sIx_nat, HT.sIx_nat, List.length_append, List.length_append, Nat.min_eq_left (by omega), Nat.min_eq_left (by omega), List.drop_left, Nat.add_sub_cancel_left, List.take_left]
theorem tab_empty {H : Hp} {PT : Addr} (h : H PT = some (.tbl #[])) : Tb H PT := LamX.TabS.nil h
/-- the list of the calls is to be read -/
def KL (K : PySem.W.Frag) (cA fA : Addr) (xs : List V) (H G : Hp) : Prop := (∃ u, (u = .lst xs ∨ ∃ o, u = .frz o (.lst xs)) ∧ H cA = some u ∧ G cA = none ∧ cA ≠ fA) ∨
  ∃ (o : Obj) (its : Array Value) (n : Nat), K.lookup cA = some o ∧ o.cls = .type "list" ∧ o.dict = none ∧ o.data = .seq its n ∧ its.size ≤ sizeLine ∧ Vals xs its.toList
section
variable {K : PySem.W.Frag} {cA fA : Addr} {xs : List V} {H G : Hp}
theorem KL.seq (h : KL K cA fA xs H G) : SqL K H cA xs := by
  rcases h with ⟨u, hu, h, _⟩ | h
  · rcases hu with rfl | ⟨o, rfl⟩
    · exact .inl (.inl h)
    · exact .inl (.inr ⟨o, h⟩)
  · exact .inr h
theorem KL.map {H' G' : Hp} (h : KL K cA fA xs H G) (s : ∀ u, H cA = some u → (∀ ps, u ≠ .tbl ps) → (∀ C d fs, u ≠ .ins C d fs) → G cA = none → cA ≠ fA → H' cA = some u ∧ G' cA = none) : KL K cA fA xs H' G' := by
  rcases h with ⟨u, hu, h1, h2, h3⟩ | h
  · obtain ⟨e1, e2⟩ := s u h1 (fun ps z => by rcases hu with rfl | ⟨o, rfl⟩ <;> cases z) (fun _ _ _ z => by rcases hu with rfl | ⟨o, rfl⟩ <;> cases z) h2 h3
    exact .inl ⟨u, hu, e1, e2, h3⟩
  · exact .inr h
end
theorem rel_init : Rel Hs10.init (Sk.new 0 0) := rel_fresh (p := Hs10.init.pattern) ⟨by decide, by decide, by decide⟩ ⟨rfl, by decide, fun z => absurd z (by decide)⟩ rfl rfl
def turnsLeft (n : Nat) (σ : L2.St) : Nat := match σ[3]? with
  | some (some (V.int i)) => ((n : Int) - i).toNat
  | _ => 0
section
variable {P : Program} {w : World} {K : PySem.W.Frag} {mg : Str → Option Value} {base : Heap} {c : Cs} {C fI : Addr}
def spAnswers (K : PySem.W.Frag) (PT : Addr) : Sp := fun vs H Q _ => ∃ (cA : Addr) (ns : List Int), vs = [.ref cA] ∧ SqL K H cA (ns.map V.int) ∧ H PT = some (.tbl #[]) ∧ PyHs10.answers_asked ns = true ∧ ∀ H' p, H' p = some (.lst ((PyHs10.answers ns).map V.int)) → Q (.ref p) H'
abbrev sAnswers : Stmt := top 63
theorem scAnswers : FnScope ["calls", "desk", "found", "at", "call", "end", "own", "row", "told"] ["calls"] (defScope sAnswers) := ⟨rfl, rfl, rfl, by decide +kernel, rfl, by decide +kernel, by decide +kernel⟩
theorem ok_answers {f fA' fD NA : Addr} {fd fdA fdD : FuncData} {PT : Addr} (F : Fun K "answers" "answers" sAnswers f fd) (T : Txt K c)
    (DA : Df K mg "answer" sAnswer ["desk", "call", "own", "row"] fA' fdA) (GA : FnOk P w K mg base CX0 8 fA' fdA ["desk", "call", "own", "row"] (spAnswer K c PT))
    (MD : Mk K c.cD fD) (gD : mg "Desk" = some (.ref c.cD)) (bD : Binds K fdD ["self"] []) (GD : FnOk P w K mg base CX0 3 fD fdD ["self"] (spDeskI c))
    (mN : mg "NUMBERS" = some (.ref NA)) (hN : ∀ H : Hp, SqT K H NA ([3, 3, 0, 0, 0].map I)) (mP : CI mg "PATTERN" 0) (mLen : mg "len" = none) : FnOk P w K mg base CX0 9 f fd ["calls"] (spAnswers K PT) := by
  obtain ⟨_, mP⟩ := mP
  refine F.ok scAnswers ?_ ?_
  · rintro vs H Q E ⟨cA, ns, rfl, _⟩
    rfl
  · intro cdv A outer s H vs Q E hr h
    have hr8 : Room 8 _ := hr.mono (by decide)
    have hr4 : Room 4 _ := hr.mono (by decide)
    refine ⟨_, (pss_cons (ps_set (i := 1) scAnswers.nd rfl (Or.inl rfl) (pe_make0 MD GD hr4 rfl gD bD .nil pass0))
      (pss_cons (ps_set (i := 2) scAnswers.nd rfl (Or.inl rfl) (pe_lst pa_nil))
      (pss_cons (ps_set (i := 3) scAnswers.nd rfl (Or.inl rfl) pe_int)
      (pss_cons (ps_while PassesOwn.never (pt_cmpR op_lt (pv 3) (pe_callB call_len_seq (by rfl) mLen PySem.boot_len (pa_cons (pv 0) pa_nil)) (nomark _)) (pss_cons (ps_set (i := 4) scAnswers.nd rfl (Or.inl rfl) (pe_ix ix_list (pv 0) (pv 3) (fun _ _ => rfl)))
      (pss_cons (ps_set (i := 5) scAnswers.nd rfl (Or.inl rfl) (pe_op op_add (pe_op op_add (pv 3) pe_int) (pe_ix ix_tup (pe_glob (v := .ref NA) rfl mN rfl) (pv 4) (fun _ _ => rfl))))
      (pss_cons (ps_set (i := 6) scAnswers.nd rfl (Or.inl rfl) (pe_slice sl_list (pv 0) (po_some (pe_op op_add (pv 3) pe_int)) (po_some (pv 5))))
      (pss_cons (ps_set (i := 7) scAnswers.nd rfl (Or.inl rfl) (pe_lst pa_nil))
      (pss_cons (ps_if (pt_cmpR op_eq (pv 4) (pe_glob (v := .int 0) rfl mP ⟨_, rfl⟩) (nomark _)) (pss_cons (ps_set (i := 7) scAnswers.nd rfl (Or.inl rfl) (pe_slice sl_list (pv 0) (po_some (pe_op op_add (pv 5) pe_int)) (po_some (pe_op op_add (pe_op op_add (pv 5) pe_int) (pe_ix ix_list (pv 0) (pv 5) (fun _ _ => rfl)))))) (pss_one (ps_set (i := 5) scAnswers.nd rfl (Or.inl rfl) (pe_op op_add (pe_op op_add (pv 5) pe_int) (pe_callB call_len_seq (by rfl) mLen PySem.boot_len (pa_cons (pv 7) pa_nil)))))) pss_nil)
      (pss_cons (ps_set (i := 8) scAnswers.nd rfl (Or.inl rfl) (pe_call GA hr8 rfl DA.g DA.F.kp DA.b .nil pass0 (pa_cons (pv 1) (pa_cons (pv 4) (pa_cons (pv 6) (pa_cons (pv 7) pa_nil))))))
      (pss_cons (ps_expr (pe_bm PySem.F.plainAttrs_list PySem.F.slot_list_append PySem.F.type_list_append mt_append (pv 2) (pa_cons (pe_callB call_len_seq (by rfl) mLen PySem.boot_len (pa_cons (pv 8) pa_nil)) pa_nil)))
      (pss_cons (ps_expr (pe_bm PySem.F.plainAttrs_list PySem.F.slot_list_extend PySem.F.type_list_extend mt_extend (pv 2) (pa_cons (pv 8) pa_nil)))
      (pss_one (ps_set (i := 3) scAnswers.nd rfl (Or.inl rfl) (pv 5))))))))))))
      (pss_one (ps_ret (pv 2))))))), ?_⟩
    obtain ⟨cA, ns, rfl, hS, hT0, hask, q⟩ := h
    obtain ⟨hdue, hshort⟩ := due_of hask
    have hz : sizeLine = 16777216 := sizeLine_eq
    -- desk = Desk()
    intro a dx na ndx nea
    refine ⟨a, dx, rfl, upd_same, fun H1 G1 sG1 old1 hd1 => ?_⟩
    have base1 : ∀ b o, H b = some o → H1 b = some o ∧ G1 b = none := fun b o hb => old1 b o (by rw [upd_ne (ne_of_none hb na), upd_ne (ne_of_none hb ndx)]; exact hb) (ne_of_none hb na)
    -- found = [], at = 0
    refine ⟨rfl, Nat.zero_le _, fun fA nf => ?_⟩
    have s2 : Same H1 (upd H1 fA (.lst [])) := same_new (Same.refl _) nf _
    have fT : fA ≠ PT := Ne.symm (ne_of_none (base1 _ _ hT0).1 nf)
    refine while_by (fun σ H2 => ∃ G st k pre rest done due m v4 v5 v6 v7 v8, σ = [some (.ref cA), some (.ref a), some (.ref fA), some (V.int ((List.length (α := Int) pre : Nat) : Int)), v4, v5, v6, v7, v8] ∧ ns = pre ++ rest ∧ Same G H2 ∧ G PT = none ∧ Tb H2 PT ∧ DeskAt c G a st k ∧ Rel st k ∧
      H2 fA = some (.lst (List.map V.int done)) ∧ G fA = none ∧ KL K cA fA (ns.map V.int) H2 G ∧ fA ≠ PT ∧ Due st rest due m ∧ st.count + m ≤ 60 ∧ done ++ due = PyHs10.answers ns) (fun σ _ => turnsLeft ns.length σ)
      ⟨G1, _, _, [], ns, [], _, 60, none, none, none, none, none, rfl, rfl, sG1.trans s2, (base1 _ _ hT0).2, tab_empty (s2 _ _ (base1 _ _ hT0).1), hd1, rel_init, upd_same, sG1.free nf, ?_, fT, hdue, Nat.le_refl _, rfl⟩ ?_ ?_
    · rcases hS with hS | hS
      · refine .inl ?_
        rcases hS with hS | ⟨o, hS⟩
        · exact ⟨_, .inl rfl, s2 _ _ (base1 _ _ hS).1, (base1 _ _ hS).2, ne_of_none (base1 _ _ hS).1 nf⟩
        · exact ⟨_, .inr ⟨o, rfl⟩, s2 _ _ (base1 _ _ hS).1, (base1 _ _ hS).2, ne_of_none (base1 _ _ hS).1 nf⟩
      · exact .inr hS
    rotate_left
    · rintro σ H2 Q1 Q2 hm ⟨x1, e1, x2, e2, p1, ys, e3, e4, i1, j1, e5, e6, b1, e7, h⟩
      exact ⟨x1, e1, x2, e2, p1, ys, e3, e4, i1, j1, e5, e6, b1, e7, hm _ _ h⟩
    rintro σ H2 ⟨G, st, k, pre, rest, done, due, m0, v4, v5, v6, v7, v8, rfl, hns, sG, nT, tT, hd, hrel, ef, gf, hkl, _, hdue, hcm, hdone⟩
    have hlen : ns.length = pre.length + rest.length := by rw [hns, List.length_append]
    refine ⟨_, rfl, _, rfl, cA, _, rfl, .inl hkl.seq, _, _, rfl, rfl, _, rfl, ifd (c := pre.length < ns.length) (by rw [List.length_map]; exact dL _ _) (fun hlt => ?_) (fun hlt => ?_)⟩
    rotate_left
    · have hr0 : rest = [] := List.eq_nil_of_length_eq_zero (by omega)
      rw [hr0] at hdue
      rw [hdue.nil, List.append_nil] at hdone
      refine ⟨_, rfl, q H2 fA ?_⟩
      rw [← hdone]
      exact ef
    cases rest with
    | nil => rw [List.length_nil] at hlen; omega
    | cons p r =>
    obtain ⟨x, t, due', m, hw, rfl, hdue', edue⟩ := hdue.cons
    have exs : ns.map V.int = pre.map V.int ++ (I (codeOf x) :: ((ownOf x).map I ++ ((tailOf x).map I ++ t.map V.int))) := by
      rw [hns, hw, List.map_append, List.map_append, List.map_map]
      show _ ++ (I (codeOf x) :: (List.map (V.int ∘ fun n : Nat => (n : Int)) (ownOf x ++ tailOf x)) ++ _) = _
      rw [List.map_append, List.cons_append, List.append_assoc]
      rfl
    have hwl : ns.length = pre.length + ((wordOf x).length + t.length) := by
      rw [hns, hw, List.length_append, List.length_append, List.length_map]
    have hw1 : (wordOf x).length = 1 + ((ownOf x).length + (tailOf x).length) := by
      unfold wordOf
      rw [List.length_cons, List.length_append]
      omega
    have hat : atI (ns.map V.int) ((pre.length : Nat) : Int) = some (I (codeOf x)) := by
      refine atI_nat ?_
      rw [exs, List.getElem?_append_right (by rw [List.length_map]; exact Nat.le_refl _), List.length_map, Nat.sub_self]
      rfl
    have hatN : atI ([3, 3, 0, 0, 0].map I) ((codeOf x : Nat) : Int) = some (I (ownOf x).length) := by
      refine atI_nat ?_
      cases x <;> rfl
    have hcut1 : cutV (ns.map V.int) (some ((pre.length : Int) + 1)) (some ((pre.length : Int) + 1 + ((ownOf x).length : Int))) = (ownOf x).map I := by
      rw [exs, show ∀ y z, pre.map V.int ++ (y :: z) = (pre.map V.int ++ [y]) ++ z from fun y z => by rw [List.append_assoc]; rfl]
      refine cut_mid _ _ _ _ _ ?_ ?_
      · rw [List.length_append, List.length_map]
        rfl
      · rw [List.length_append, List.length_map, List.length_map]
        show _ = ((pre.length + 1 + (ownOf x).length : Nat) : Int)
        omega
    -- call, end, own, row
    refine ⟨_, rfl, _, rfl, cA, _, _, I (codeOf x), rfl, rfl, hkl.seq, hat, ?_⟩
    refine ⟨_, rfl, _, _, rfl, rfl, _, rfl, NA, _, _, I (ownOf x).length, rfl, rfl, hN _, hatN, _, _, rfl, rfl, ?_⟩
    refine ⟨_, rfl, _, rfl, _, _, rfl, rfl, _, rfl, _, rfl, _, rfl, cA, _, rfl, hkl.seq, fun oA noA => ?_⟩
    rw [hcut1]
    refine ⟨Nat.zero_le _, fun rA nrA => ?_⟩
    have s3 : Same H2 (upd H2 oA (.lst ((ownOf x).map I))) := same_new (Same.refl _) noA _
    have s4 : Same (upd H2 oA (.lst ((ownOf x).map I))) (upd (upd H2 oA (.lst ((ownOf x).map I))) rA (.lst [])) := same_new (Same.refl _) nrA _
    have eo4 := s4 _ _ (upd_same (H := H2) (a := oA) (o := .lst ((ownOf x).map I)))
    have er4 : upd (upd H2 oA (.lst ((ownOf x).map I))) rA (.lst []) rA = some (.lst []) := upd_same
    have s24 := s3.trans s4
    generalize upd (upd H2 oA (.lst ((ownOf x).map I))) rA (.lst []) = H4 at s24 eo4 er4
    have hseq4 : SqL K H4 cA (ns.map V.int) := s24.seq hkl.seq
    refine ⟨_, rfl, rfl, _, rfl, ifd (dE (codeOf x) 0) (fun h0 => ?_) (fun h0 => ?_)⟩
    · obtain ⟨way, pivot, limit, row, rfl⟩ : ∃ way pivot limit row, x = .pattern way pivot limit row := by
        cases x with
        | pattern way pivot limit row => exact ⟨way, pivot, limit, row, rfl⟩
        | event => cases h0
        | runs => cases h0
        | counts => cases h0
        | first => cases h0
      have exs2 : ns.map V.int = (pre.map V.int ++ [I 0, I way, I pivot, I limit]) ++ (I row.length :: (row.map I ++ t.map V.int)) := by
        rw [exs, List.append_assoc]
        rfl
      have l4 : (pre.map V.int ++ [I 0, I way, I pivot, I limit]).length = pre.length + 4 := by
        rw [List.length_append, List.length_map]
        rfl
      have hat2 : atI (ns.map V.int) ((pre.length : Int) + 1 + ((3 : Nat) : Int)) = some (I row.length) := by
        rw [show (pre.length : Int) + 1 + ((3 : Nat) : Int) = ((pre.length + 4 : Nat) : Int) by omega]
        refine atI_nat ?_
        rw [exs2, List.getElem?_append_right (by omega), l4, Nat.sub_self]
        rfl
      have hcut2 : cutV (ns.map V.int) (some ((pre.length : Int) + 1 + ((3 : Nat) : Int) + 1)) (some ((pre.length : Int) + 1 + ((3 : Nat) : Int) + 1 + ((row.length : Nat) : Int))) = row.map I := by
        rw [exs2, show ∀ u y z, u ++ (y :: z) = (u ++ [y]) ++ z from fun u (y : V) z => by rw [List.append_assoc]; rfl]
        refine cut_mid _ _ _ _ _ ?_ ?_
        · rw [List.length_append, l4]
          show _ = ((pre.length + 4 + 1 : Nat) : Int)
          omega
        · rw [List.length_append, l4, List.length_map]
          show _ = ((pre.length + 4 + 1 + row.length : Nat) : Int)
          omega
      refine ⟨_, rfl, _, rfl, _, _, rfl, rfl, _, rfl, _, rfl, _, _, rfl, rfl, _, rfl, _, rfl, cA, _, _, I row.length, rfl, rfl, hseq4, hat2, _, _, rfl, rfl, _, rfl, cA, _, rfl, hseq4, fun rB nrB => ?_⟩
      have hcut3 : cutV (ns.map V.int) (some ((pre.length : Int) + 1 + (((ownOf (.pattern way pivot limit row)).length : Nat) : Int) + 1)) (some ((pre.length : Int) + 1 + (((ownOf (.pattern way pivot limit row)).length : Nat) : Int) + 1 + ((row.length : Nat) : Int))) = row.map I := hcut2
      rw [hcut3]
      have s45 : Same H4 (upd H4 rB (.lst (row.map I))) := same_new (Same.refl _) nrB _
      have eo5 := s45 _ _ eo4
      have er5 : upd H4 rB (.lst (row.map I)) rB = some (.lst (row.map I)) := upd_same
      have s5 := s24.trans s45
      generalize upd H4 rB (.lst (row.map I)) = H5 at s5 eo5 er5
      refine ⟨_, rfl, _, _, rfl, rfl, _, rfl, rB, _, rfl, .inl (SqL.lst er5), _, _, rfl, rfl, ?_⟩
      have e5 : (pre.length : Int) + 1 + (((ownOf (.pattern way pivot limit row)).length : Nat) : Int) + 1 + (((row.map I).length : Nat) : Int) = (((pre ++ (wordOf (.pattern way pivot limit row)).map (fun n : Nat => (n : Int))).length : Nat) : Int) := by
        rw [List.length_map, List.length_append, List.length_map, hw1]
        show (pre.length : Int) + 1 + ((3 : Nat) : Int) + 1 + ((row.length : Nat) : Int) = ((pre.length + (1 + (3 + (row.length + 1))) : Nat) : Int)
        omega
      have cnt : st.count ≤ 1000 := by omega
      refine ⟨_, rfl, _, rfl, _, rfl, _, rfl, G, a, oA, rB, st, k, .pattern way pivot limit row, rfl, SqL.lst eo5, SqL.lst er5, sG.trans s5, nT, tT.ext s5, hd, hrel, cnt, fun s' k' ans hs hr' hc H6 G6 l ho hn hd6 el => ?_⟩
      obtain ⟨ef6, gf6⟩ := ho.old _ _ (s5 _ _ ef) gf fT
      have lf : l ≠ fA := hn _ _ (s5 _ _ ef) gf fT
      rw [hs] at hdue' edue
      have edue : due = ((ans.length : Nat) : Int) :: (ans ++ due') := edue
      have hdue' : Due s' t due' m := hdue'
      have elen : done.length + (1 + (ans.length + due'.length)) = (PyHs10.answers ns).length := by
        rw [← hdone, edue, List.length_append, List.length_cons, List.length_append]
        omega
      -- found.append(len(told))
      refine ⟨_, rfl, tyL ef6, _, rfl, l, _, rfl, .inl (SqL.lst el), fA, _, _, rfl, rfl, ef6, by rw [List.length_map]; omega, ?_⟩
      have el7 : upd H6 fA (.lst (done.map V.int ++ [V.int (((ans.map V.int).length : Nat) : Int)])) l = some (.lst (ans.map V.int)) := (upd_ne lf).trans el
      have ef7 : upd H6 fA (.lst (done.map V.int ++ [V.int (((ans.map V.int).length : Nat) : Int)])) fA = some _ := upd_same
      refine ⟨_, rfl, tyL ef7, _, rfl, fA, l, _, _, rfl, rfl, ef7, el7, ?_, ?_⟩
      · rw [List.length_append, List.length_map, List.length_map]
        show _ + 1 + _ ≤ sizeLine
        omega
      rw [upd_upd]
      have ell : done.map V.int ++ [V.int (((ans.map V.int).length : Nat) : Int)] ++ ans.map V.int = (done ++ ((ans.length : Nat) : Int) :: ans).map V.int := by
        rw [List.map_append, List.map_cons, List.append_assoc, List.length_map]
        rfl
      rw [ell]
      -- at = end
      refine ⟨_, rfl, ⟨G6, s', k', pre ++ (wordOf (.pattern way pivot limit row)).map (fun n : Nat => (n : Int)), t, done ++ ((ans.length : Nat) : Int) :: ans, due', m, some (I (codeOf (.pattern way pivot limit row))), some (V.int ((pre.length : Int) + 1 + (((ownOf (.pattern way pivot limit row)).length : Nat) : Int) + 1 + (((row.map I).length : Nat) : Int))), some (.ref oA), some (.ref rB), some (.ref l), ?_, ?_, same_new ho.sub gf6 _, ho.noT, tab_poke ho.tab ef6 (fun _ z => by cases z) (fun _ z => by cases z), hd6, hr', upd_same, gf6, hkl.map fun u h1 h2 _ h3 h4 => ?_, fT, hdue', by omega, ?_⟩, ?_⟩
      · rw [← e5]
        rfl
      · rw [List.append_assoc, ← hw]
        exact hns
      · obtain ⟨y1, y2⟩ := ho.old _ _ (s5 _ _ h1) h3 (fun z => by obtain ⟨ps, e⟩ := tab_some tT; rw [z, e] at h1; exact h2 ps (Option.some.inj h1).symm)
        exact ⟨(upd_ne h4).trans y1, y2⟩
      · rw [← hdone, edue, List.append_assoc, List.cons_append]
      · show (((ns.length : Nat) : Int) - _).toNat < (((ns.length : Nat) : Int) - ((pre.length : Nat) : Int)).toNat
        rw [e5, List.length_append, List.length_map]
        omega
    · have hrow : rowOf x = [] ∧ tailOf x = [] := by
        cases x with
        | pattern => exact absurd rfl h0
        | event => exact ⟨rfl, rfl⟩
        | runs => exact ⟨rfl, rfl⟩
        | counts => exact ⟨rfl, rfl⟩
        | first => exact ⟨rfl, rfl⟩
      have eo5 := eo4
      have er5 : H4 rA = some (.lst ((rowOf x).map I)) := by
        rw [hrow.1]
        exact er4
      have s5 := s24
      have e5 : (pre.length : Int) + 1 + (((ownOf x).length : Nat) : Int) = (((pre ++ (wordOf x).map (fun n : Nat => (n : Int))).length : Nat) : Int) := by
        rw [List.length_append, List.length_map, hw1, hrow.2]
        show _ = ((pre.length + (1 + ((ownOf x).length + 0)) : Nat) : Int)
        omega
      have cnt : st.count ≤ 1000 := by omega
      refine ⟨_, rfl, _, rfl, _, rfl, _, rfl, G, a, oA, rA, st, k, x, rfl, SqL.lst eo5, SqL.lst er5, sG.trans s5, nT, tT.ext s5, hd, hrel, cnt, fun s' k' ans hs hr' hc H6 G6 l ho hn hd6 el => ?_⟩
      obtain ⟨ef6, gf6⟩ := ho.old _ _ (s5 _ _ ef) gf fT
      have lf : l ≠ fA := hn _ _ (s5 _ _ ef) gf fT
      rw [hs] at hdue' edue
      have edue : due = ((ans.length : Nat) : Int) :: (ans ++ due') := edue
      have hdue' : Due s' t due' m := hdue'
      have elen : done.length + (1 + (ans.length + due'.length)) = (PyHs10.answers ns).length := by
        rw [← hdone, edue, List.length_append, List.length_cons, List.length_append]
        omega
      -- found.append(len(told))
      refine ⟨_, rfl, tyL ef6, _, rfl, l, _, rfl, .inl (SqL.lst el), fA, _, _, rfl, rfl, ef6, by rw [List.length_map]; omega, ?_⟩
      have el7 : upd H6 fA (.lst (done.map V.int ++ [V.int (((ans.map V.int).length : Nat) : Int)])) l = some (.lst (ans.map V.int)) := (upd_ne lf).trans el
      have ef7 : upd H6 fA (.lst (done.map V.int ++ [V.int (((ans.map V.int).length : Nat) : Int)])) fA = some _ := upd_same
      refine ⟨_, rfl, tyL ef7, _, rfl, fA, l, _, _, rfl, rfl, ef7, el7, ?_, ?_⟩
      · rw [List.length_append, List.length_map, List.length_map]
        show _ + 1 + _ ≤ sizeLine
        omega
      rw [upd_upd]
      have ell : done.map V.int ++ [V.int (((ans.map V.int).length : Nat) : Int)] ++ ans.map V.int = (done ++ ((ans.length : Nat) : Int) :: ans).map V.int := by
        rw [List.map_append, List.map_cons, List.append_assoc, List.length_map]
        rfl
      rw [ell]
      -- at = end
      refine ⟨_, rfl, ⟨G6, s', k', pre ++ (wordOf x).map (fun n : Nat => (n : Int)), t, done ++ ((ans.length : Nat) : Int) :: ans, due', m, some (I (codeOf x)), some (V.int ((pre.length : Int) + 1 + (((ownOf x).length : Nat) : Int))), some (.ref oA), some (.ref rA), some (.ref l), ?_, ?_, same_new ho.sub gf6 _, ho.noT, tab_poke ho.tab ef6 (fun _ z => by cases z) (fun _ z => by cases z), hd6, hr', upd_same, gf6, hkl.map fun u h1 h2 _ h3 h4 => ?_, fT, hdue', by omega, ?_⟩, ?_⟩
      · rw [← e5]
        rfl
      · rw [List.append_assoc, ← hw]
        exact hns
      · obtain ⟨y1, y2⟩ := ho.old _ _ (s5 _ _ h1) h3 (fun z => by obtain ⟨ps, e⟩ := tab_some tT; rw [z, e] at h1; exact h2 ps (Option.some.inj h1).symm)
        exact ⟨(upd_ne h4).trans y1, y2⟩
      · rw [← hdone, edue, List.append_assoc, List.cons_append]
      · show (((ns.length : Nat) : Int) - _).toNat < (((ns.length : Nat) : Int) - ((pre.length : Nat) : Int)).toNat
        rw [e5, List.length_append, List.length_map]
        omega
end
end G

/-! ## PRend -/
/-! The facts of the written part; all defs together. -/
namespace G
open PySem PySem.Spec PyProof.Rows L2

def factsL0 : List He.Fa := [.glo "is_passed", .keep "is_passed", .glo "is_of_kind", .keep "is_of_kind", .glo "fits_first", .keep "fits_first", .glo "may_be_left_out", .keep "may_be_left_out", .glo "firsts", .keep "firsts", .glo "nexts", .keep "nexts", .glo "barred_between", .keep "barred_between", .glo "is_end", .keep "is_end", .glo "fits", .keep "fits", .glo "is_in_time", .keep "is_in_time", .glo "following", .keep "following", .glo "stays_open", .keep "stays_open", .glo "begun", .keep "begun", .glo "longer", .keep "longer", .glo "passed_by", .keep "passed_by"]
def factsL1 : List He.Fa := [.glo "taking", .keep "taking", .glo "in_order", .keep "in_order", .glo "run_told", .keep "run_told", .glo "want", .keep "want", .glo "is_stage", .keep "is_stage", .glo "is_skip", .keep "is_skip", .glo "rows_of", .keep "rows_of", .glo "of_call", .keep "of_call", .glo "answer", .keep "answer", .glo "answers", .keep "answers", .glo "Stage", .cls "Stage", .mkr "Stage", .noat "Stage" "form", .noat "Stage" "follows", .noat "Stage" "repeats", .noat "Stage" "kind", .noat "Stage" "test", .noat "Stage" "bound", .glo "Event"]
def factsL2 : List He.Fa := [.cls "Event", .mkr "Event", .noat "Event" "number", .noat "Event" "kind", .noat "Event" "value", .noat "Event" "time", .glo "Run", .cls "Run", .mkr "Run", .noat "Run" "taken", .noat "Run" "first", .noat "Run" "last", .noat "Run" "open_ones", .glo "Skip", .cls "Skip", .mkr "Skip", .noat "Skip" "way", .noat "Skip" "pivot", .noat "Skip" "shut_to", .noat "Skip" "shut_begins", .glo "Desk", .cls "Desk", .mkr "Desk", .noat "Desk" "stages", .noat "Desk" "limit", .noat "Desk" "skip", .noat "Desk" "kept", .noat "Desk" "came", .noat "Desk" "now", .noat "Desk" "many_told"]
def factsL3 : List He.Fa := [.glo "Refused", .noat "Refused" "number", .exm "Refused" "Refused" true, .keep "Refused", .meth "Stage" "__init__", .meth "Event" "__init__", .meth "Run" "__init__", .meth "Run" "begin", .meth "Run" "stage", .meth "Skip" "__init__", .meth "Skip" "is_shut", .meth "Skip" "pivot_event", .meth "Skip" "tell", .meth "Skip" "copied", .meth "Desk" "__init__", .meth "Desk" "pattern", .meth "Desk" "new_runs", .meth "Desk" "event", .meth "Desk" "runs", .meth "Desk" "counts", .meth "Desk" "earliest", .meth "Refused" "__init__", .int "ANY_KIND" (10), .int "PERHAPS" (1), .int "ANY" (3), .int "NONE_BETWEEN" (4), .int "SOME" (2), .int "AT_ONCE" (0), .int "NEXT_FITTING" (1), .int "BEHIND_LAST" (1)]
def factsL4 : List He.Fa := [.int "SAME_BEGIN" (2), .int "BEHIND_PIVOT" (3), .int "MOST_FOLLOWS" (2), .int "MOST_TEST" (6), .int "GREATEST" (1000000), .int "NUMBERS_EACH" (6), .int "NEVER" (0), .int "MOST_STAGES" (8), .int "WRONG_LENGTH" (-1), .int "WRONG_STAGE" (-2), .int "WRONG_END" (-3), .int "WRONG_SKIP" (-4), .int "WRONG_TIME" (-5), .int "MOST_KIND" (9), .int "MOST_RUNS" (300), .int "WRONG_EVENT" (-1), .int "TOO_EARLY" (-2), .int "TOO_MUCH" (-9), .int "PATTERN" (0), .free "len", .free "all", .free "enumerate", .free "range", .free "any", .free "sorted", .free "max", .free "dict", .free "divmod", .free "min", .free "ValueError"]
def factsL : List He.Fa := factsL0 ++ (factsL1 ++ (factsL2 ++ (factsL3 ++ (factsL4))))
def defsL0 : List He.FnD := [⟨("is_passed", none), "is_passed", "is_passed", defArgs sPassed, defBody sPassed, defScope sPassed⟩, ⟨("is_of_kind", none), "is_of_kind", "is_of_kind", defArgs sKind, defBody sKind, defScope sKind⟩, ⟨("fits_first", none), "fits_first", "fits_first", defArgs sFitsF, defBody sFitsF, defScope sFitsF⟩, ⟨("may_be_left_out", none), "may_be_left_out", "may_be_left_out", defArgs sLeft, defBody sLeft, defScope sLeft⟩, ⟨("firsts", none), "firsts", "firsts", defArgs sFirsts, defBody sFirsts, defScope sFirsts⟩, ⟨("nexts", none), "nexts", "nexts", defArgs sNexts, defBody sNexts, defScope sNexts⟩, ⟨("barred_between", none), "barred_between", "barred_between", defArgs sBarred, defBody sBarred, defScope sBarred⟩, ⟨("is_end", none), "is_end", "is_end", defArgs sEnd, defBody sEnd, defScope sEnd⟩, ⟨("fits", none), "fits", "fits", defArgs sFits, defBody sFits, defScope sFits⟩, ⟨("is_in_time", none), "is_in_time", "is_in_time", defArgs sTime, defBody sTime, defScope sTime⟩, ⟨("following", none), "following", "following", defArgs sFollow, defBody sFollow, defScope sFollow⟩, ⟨("stays_open", none), "stays_open", "stays_open", defArgs sStays, defBody sStays, defScope sStays⟩, ⟨("begun", none), "begun", "begun", defArgs sBegun, defBody sBegun, defScope sBegun⟩, ⟨("longer", none), "longer", "longer", defArgs sLonger, defBody sLonger, defScope sLonger⟩, ⟨("passed_by", none), "passed_by", "passed_by", defArgs sPassed_by, defBody sPassed_by, defScope sPassed_by⟩]
def defsL1 : List He.FnD := [⟨("taking", none), "taking", "taking", defArgs sTaking, defBody sTaking, defScope sTaking⟩, ⟨("in_order", none), "in_order", "in_order", defArgs sOrder, defBody sOrder, defScope sOrder⟩, ⟨("run_told", none), "run_told", "run_told", defArgs sTold, defBody sTold, defScope sTold⟩, ⟨("want", none), "want", "want", defArgs sWant, defBody sWant, defScope sWant⟩, ⟨("is_stage", none), "is_stage", "is_stage", defArgs sIsStage, defBody sIsStage, defScope sIsStage⟩, ⟨("is_skip", none), "is_skip", "is_skip", defArgs sIsSkip, defBody sIsSkip, defScope sIsSkip⟩, ⟨("rows_of", none), "rows_of", "rows_of", defArgs sRows, defBody sRows, defScope sRows⟩, ⟨("of_call", none), "of_call", "of_call", defArgs sOf, defBody sOf, defScope sOf⟩, ⟨("answer", none), "answer", "answer", defArgs sAnswer, defBody sAnswer, defScope sAnswer⟩, ⟨("answers", none), "answers", "answers", defArgs sAnswers, defBody sAnswers, defScope sAnswers⟩, ⟨("Stage", some "__init__"), "__init__", "Stage.__init__", defArgs sStageI, defBody sStageI, defScope sStageI⟩, ⟨("Event", some "__init__"), "__init__", "Event.__init__", defArgs sEventI, defBody sEventI, defScope sEventI⟩, ⟨("Run", some "__init__"), "__init__", "Run.__init__", defArgs sRunI, defBody sRunI, defScope sRunI⟩, ⟨("Run", some "begin"), "begin", "Run.begin", defArgs sBegin, defBody sBegin, defScope sBegin⟩, ⟨("Run", some "stage"), "stage", "Run.stage", defArgs sStageM, defBody sStageM, defScope sStageM⟩]
def defsL2 : List He.FnD := [⟨("Skip", some "__init__"), "__init__", "Skip.__init__", defArgs sSkipI, defBody sSkipI, defScope sSkipI⟩, ⟨("Skip", some "is_shut"), "is_shut", "Skip.is_shut", defArgs sShut, defBody sShut, defScope sShut⟩, ⟨("Skip", some "pivot_event"), "pivot_event", "Skip.pivot_event", defArgs sPivot, defBody sPivot, defScope sPivot⟩, ⟨("Skip", some "tell"), "tell", "Skip.tell", defArgs sTell, defBody sTell, defScope sTell⟩, ⟨("Skip", some "copied"), "copied", "Skip.copied", defArgs sCopied, defBody sCopied, defScope sCopied⟩, ⟨("Desk", some "__init__"), "__init__", "Desk.__init__", defArgs sDeskI, defBody sDeskI, defScope sDeskI⟩, ⟨("Desk", some "pattern"), "pattern", "Desk.pattern", defArgs sPattern, defBody sPattern, defScope sPattern⟩, ⟨("Desk", some "new_runs"), "new_runs", "Desk.new_runs", defArgs sNew, defBody sNew, defScope sNew⟩, ⟨("Desk", some "event"), "event", "Desk.event", defArgs sEvent, defBody sEvent, defScope sEvent⟩, ⟨("Desk", some "runs"), "runs", "Desk.runs", defArgs sRuns, defBody sRuns, defScope sRuns⟩, ⟨("Desk", some "counts"), "counts", "Desk.counts", defArgs sCounts, defBody sCounts, defScope sCounts⟩, ⟨("Desk", some "earliest"), "earliest", "Desk.earliest", defArgs sFirst, defBody sFirst, defScope sFirst⟩, ⟨("Refused", some "__init__"), "__init__", "Refused.__init__", defArgs sRefI, defBody sRefI, defScope sRefI⟩]
def defsL : List He.FnD := defsL0 ++ (defsL1 ++ (defsL2))
/-- the tuple of the numbers of each call -/
def tupB (K : PySem.W.Frag) : Bool := match PySem.W.nsIn K mainGlobals "NUMBERS" with
  | some (some (.ref a)) => (match K.lookup a with
    | some ob => decide (ob.cls = .type "tuple") && (match ob.data with
      | .seq its _ => (match its.toList with
        | [.int i0 _, .int i1 _, .int i2 _, .int i3 _, .int i4 _] => decide (i0 = 3) && (decide (i1 = 3) && (decide (i2 = 0) && (decide (i3 = 0) && decide (i4 = 0))))
        | _ => false)
      | _ => false)
    | none => false)
  | _ => false
/-- the own error's class -/
def oexK (K : PySem.W.Frag) (C : Addr) : Bool := match K.lookup C with
  | some ob => decide (ob.cls = .type "type") && (match ob.data with
    | .cls cd => !cd.hasDel && (cd.hasDict && (match cd.mro with
      | y :: bm => decide (y = .ref C) && (PySem.HandSPX.refsVE bm && (match ob.slots.toList with
        | [_, _, _, _, some y, _] => decide (y = .builtin "ValueError.__new__")
        | _ => false))
      | [] => false))
    | _ => false)
  | none => false
theorem both {a b : Bool} (h : (a && b) = true) : a = true ∧ b = true := Bool.and_eq_true_iff.mp h
section
variable {K : PySem.W.Frag} {h : Heap} {mg : Str → Option Value}
theorem tup_ok (X : K.In h) (G : h.Ns mainGlobals mg) (q : tupB K = true) : ∃ NA, mg "NUMBERS" = some (.ref NA) ∧ ∀ H : Hp, SqT K H NA ([3, 3, 0, 0, 0].map I) := by
  unfold tupB at q
  split at q
  · rename_i a ea
    split at q
    · rename_i ob eo
      obtain ⟨q1, q⟩ := both q
      split at q
      · rename_i its n ed
        split at q
        · rename_i i0 t0 i1 t1 i2 t2 i3 t3 i4 t4 el
          obtain ⟨j0, q⟩ := both q
          obtain ⟨j1, q⟩ := both q
          obtain ⟨j2, q⟩ := both q
          obtain ⟨j3, j4⟩ := both q
          have j0 := of_decide_eq_true j0
          have j1 := of_decide_eq_true j1
          have j2 := of_decide_eq_true j2
          have j3 := of_decide_eq_true j3
          have j4 := of_decide_eq_true j4
          subst j0 j1 j2 j3 j4
          refine ⟨a, PySem.W.mg_of X G ea, fun H => .inr ⟨ob, its, n, eo, of_decide_eq_true q1, ed, ?_, ?_⟩⟩
          · rw [← Array.length_toList, el]
            show 5 ≤ sizeLine
            decide
          · rw [el]
            exact .cons ⟨_, rfl⟩ (.cons ⟨_, rfl⟩ (.cons ⟨_, rfl⟩ (.cons ⟨_, rfl⟩ (.cons ⟨_, rfl⟩ .nil))))
        · cases q
      · cases q
    · cases q
  · cases q
theorem oex_ok {C : Addr} (q : oexK K C = true) : ∃ nm qn N bs bm sn sub ab col dd k0 k1 k2 k3 k5, K.lookup C = some (excClassObj nm qn C N bs bm true sn sub ab col dd k0 k1 k2 k3 k5 "ValueError.__new__") ∧ PySem.HandSPX.refsVE bm = true := by
  unfold oexK at q
  split at q
  · rename_i ob eo
    obtain ⟨oc, od, dt, sl⟩ := ob
    obtain ⟨q1, r1⟩ := both q
    clear q
    cases dt with
    | cls cd =>
      obtain ⟨nm, bs, mro, ns, qn, hd, sn, sub, ab, col, del⟩ := cd
      dsimp only at r1
      obtain ⟨q2, r2⟩ := both r1
      obtain ⟨q3, r3⟩ := both r2
      cases mro with
      | nil => cases r3
      | cons y bm =>
        obtain ⟨q4, r4⟩ := both r3
        obtain ⟨q5, r5⟩ := both r4
        split at r5
        · rename_i k0 k1 k2 k3 z k5 es
          have c1 : oc = .type "type" := of_decide_eq_true q1
          have c4 : y = .ref C := of_decide_eq_true q4
          have c6 : z = .builtin "ValueError.__new__" := of_decide_eq_true r5
          have c2 : del = false := by simpa using q2
          have c3 : hd = true := q3
          have c8 : sl = #[k0, k1, k2, k3, some z, k5] := Array.ext' es
          subst c1 c2 c3 c4 c6 c8
          exact ⟨nm, qn, ns, bs, bm, sn, sub, ab, col, od, k0, k1, k2, k3, k5, eo, q5⟩
        · cases r5
    | _ => cases r1
  · cases q
theorem df_mk {fa : List He.Fa} {fn : List He.FnD} (X : K.In h) (G : h.Ns mainGlobals mg) (c : He.SaysE fa fn K) {x : Str} {s : Stmt} {ps : List Str} (i : Nat) (hi : fn[i]? = some ⟨(x, none), x, x, defArgs s, defBody s, defScope s⟩) (h1 : (He.Fa.glo x).ok K = true) (h2 : (He.Fa.keep x).ok K = true)
    (hb : ∀ (kV doc pm : Value) (an : Option Addr) (cdv ct : Value) (us : List Value), us.length = ps.length → bindArgs (PySem.W.fnOf x x (defArgs s) (defBody s) (defScope s) .none kV doc pm an cdv ct) ⟨us, []⟩ = pure (ps.zip us)) : ∃ fd, Df K mg x s ps (He.ga K x) fd := by
  obtain ⟨oc, od, osl, kV, doc, pm, an, cdv, ct, lk, hcd⟩ := c.def_ i hi
  have F := fun_mk (st := s) (f := He.ga K x) lk hcd (He.keep_ok h2)
  exact ⟨_, F, He.glo_ok X G h1, F.binds hb⟩
theorem mt_mk {fa : List He.Fa} {fn : List He.FnD} (c : He.SaysE fa fn K) {C m qn : Str} {s : Stmt} {ps : List Str} (i : Nat) (hi : fn[i]? = some ⟨(C, some m), m, qn, defArgs s, defBody s, defScope s⟩) (h1 : (He.Fa.meth C m).ok K = true)
    (hb : ∀ (kV doc pm : Value) (an : Option Addr) (cdv ct : Value) (us : List Value), us.length = ps.length → bindArgs (PySem.W.fnOf m qn (defArgs s) (defBody s) (defScope s) .none kV doc pm an cdv ct) ⟨us, []⟩ = pure (ps.zip us)) : ∃ fd, Mt K (He.ga K C) m qn s ps (He.ma K (He.ga K C) m) fd := by
  obtain ⟨oc, od, osl, kV, doc, pm, an, cdv, ct, lk, hcd⟩ := c.def_ i hi
  have M := He.meth_ok h1
  have F := fun_mk (st := s) (f := He.ma K (He.ga K C) m) lk hcd M.kp
  exact ⟨_, F, M, F.binds hb⟩
end
/-- the other facts -/
def moreB (K : PySem.W.Frag) : Bool := tupB K && (oexK K (He.ga K "Refused") && (xfB K (He.ga K "Refused") && (decide (PySem.W.typeIn K (.ref (He.ma K (He.ga K "Refused") "__init__")) = some (.type "function")) &&
  (He.eqO (PySem.W.findIn K (.ref (He.ga K "Refused")) "__setattr__") (some (some (.builtin "object.__setattr__"))) && decide (PySem.W.typeIn K (.ref (He.ga K "Refused")) = some (.type "type"))))))

/-- the code of in_order has a table, which is not of the written part -/
def tabB (K : PySem.W.Frag) : Bool := match PySem.W.tabIn K "in_order" with
  | some (_, t) => (K.lookup t).isNone
  | none => false
theorem tabB_ok {K : PySem.W.Frag} (q : tabB K = true) : ∃ cT PT, PySem.W.tabIn K "in_order" = some (cT, PT) ∧ K.lookup PT = none := by
  unfold tabB at q
  split at q
  · rename_i cT PT e
    exact ⟨cT, PT, e, Option.isNone_iff_eq_none.mp q⟩
  · cases q
theorem all_mk {P : Program} {w : World} {K : PySem.W.Frag} {h : Heap} {mg mb : Str → Option Value} {fa : Addr} {p : Program} {ls : List Str} {mean : ExcName → Option Value} (X : K.In h) (TP : Top p ls mean mg mb h) (hfa : mg "answers" = some (.ref fa)) (c : He.SaysE factsL defsL K) (hm : moreB K = true)
    (vV : PySem.W.findCls K (.type "ValueError") (.type "type") "__init__" = some (.val (.builtin "ValueError.__init__"))) (hr : ((recsOf p).find? (fun e => e.name == ("in_order" : Str))).isSome = true) (ht : tabB K = true) :
    ∃ (fd : FuncData) (c T : Addr), h.get? T = some { cls := .none, data := .fields #[] } ∧ K.lookup T = none ∧ PySem.W.CodeHd h c T ∧ (∀ (s : Shared) (us : List Value), us.length = (["calls"] : List Str).length → BindsTo s fd ⟨us, []⟩ ((["calls"] : List Str).zip us)) ∧
      ∀ base : Heap, K.In base → base.Ns mainGlobals mg → LamX.TabB base mg c T → FnOk P w K mg base CX0 9 fa fd ["calls"] (spAnswers K T) := by
  have G : h.Ns mainGlobals mg := TP.g
  obtain ⟨cT, PT, ht, nT⟩ := tabB_ok ht
  obtain ⟨d, hr⟩ := Option.isSome_iff_exists.mp hr
  obtain ⟨fd_is_passed, D_is_passed⟩ := df_mk X G c (x := "is_passed") (s := sPassed) (ps := ["stage", "value", "first", "last"]) 0 rfl (c.fact 0 (f := .glo "is_passed")) (c.fact 1 (f := .keep "is_passed")) (fun _ _ _ _ _ _ us hl => match us, hl with | [_, _, _, _], _ => rfl)
  obtain ⟨fd_is_of_kind, D_is_of_kind⟩ := df_mk X G c (x := "is_of_kind") (s := sKind) (ps := ["stage", "event"]) 1 rfl (c.fact 2 (f := .glo "is_of_kind")) (c.fact 3 (f := .keep "is_of_kind")) (fun _ _ _ _ _ _ us hl => match us, hl with | [_, _], _ => rfl)
  obtain ⟨fd_fits_first, D_fits_first⟩ := df_mk X G c (x := "fits_first") (s := sFitsF) (ps := ["stage", "event"]) 2 rfl (c.fact 4 (f := .glo "fits_first")) (c.fact 5 (f := .keep "fits_first")) (fun _ _ _ _ _ _ us hl => match us, hl with | [_, _], _ => rfl)
  obtain ⟨fd_may_be_left_out, D_may_be_left_out⟩ := df_mk X G c (x := "may_be_left_out") (s := sLeft) (ps := ["stages", "begin", "end"]) 3 rfl (c.fact 6 (f := .glo "may_be_left_out")) (c.fact 7 (f := .keep "may_be_left_out")) (fun _ _ _ _ _ _ us hl => match us, hl with | [_, _, _], _ => rfl)
  obtain ⟨fd_firsts, D_firsts⟩ := df_mk X G c (x := "firsts") (s := sFirsts) (ps := ["stages"]) 4 rfl (c.fact 8 (f := .glo "firsts")) (c.fact 9 (f := .keep "firsts")) (fun _ _ _ _ _ _ us hl => match us, hl with | [_], _ => rfl)
  obtain ⟨fd_nexts, D_nexts⟩ := df_mk X G c (x := "nexts") (s := sNexts) (ps := ["stages", "number"]) 5 rfl (c.fact 10 (f := .glo "nexts")) (c.fact 11 (f := .keep "nexts")) (fun _ _ _ _ _ _ us hl => match us, hl with | [_, _], _ => rfl)
  obtain ⟨fd_barred_between, D_barred_between⟩ := df_mk X G c (x := "barred_between") (s := sBarred) (ps := ["stages", "number", "other"]) 6 rfl (c.fact 12 (f := .glo "barred_between")) (c.fact 13 (f := .keep "barred_between")) (fun _ _ _ _ _ _ us hl => match us, hl with | [_, _, _], _ => rfl)
  obtain ⟨fd_is_end, D_is_end⟩ := df_mk X G c (x := "is_end") (s := sEnd) (ps := ["stages", "number"]) 7 rfl (c.fact 14 (f := .glo "is_end")) (c.fact 15 (f := .keep "is_end")) (fun _ _ _ _ _ _ us hl => match us, hl with | [_, _], _ => rfl)
  obtain ⟨fd_fits, D_fits⟩ := df_mk X G c (x := "fits") (s := sFits) (ps := ["stage", "run", "event"]) 8 rfl (c.fact 16 (f := .glo "fits")) (c.fact 17 (f := .keep "fits")) (fun _ _ _ _ _ _ us hl => match us, hl with | [_, _, _], _ => rfl)
  obtain ⟨fd_is_in_time, D_is_in_time⟩ := df_mk X G c (x := "is_in_time") (s := sTime) (ps := ["run", "event", "limit"]) 9 rfl (c.fact 18 (f := .glo "is_in_time")) (c.fact 19 (f := .keep "is_in_time")) (fun _ _ _ _ _ _ us hl => match us, hl with | [_, _, _], _ => rfl)
  obtain ⟨fd_following, D_following⟩ := df_mk X G c (x := "following") (s := sFollow) (ps := ["stages", "run", "number"]) 10 rfl (c.fact 20 (f := .glo "following")) (c.fact 21 (f := .keep "following")) (fun _ _ _ _ _ _ us hl => match us, hl with | [_, _, _], _ => rfl)
  obtain ⟨fd_stays_open, D_stays_open⟩ := df_mk X G c (x := "stays_open") (s := sStays) (ps := ["stages", "run", "number", "event"]) 11 rfl (c.fact 22 (f := .glo "stays_open")) (c.fact 23 (f := .keep "stays_open")) (fun _ _ _ _ _ _ us hl => match us, hl with | [_, _, _, _], _ => rfl)
  obtain ⟨fd_begun, D_begun⟩ := df_mk X G c (x := "begun") (s := sBegun) (ps := ["stages", "number", "event"]) 12 rfl (c.fact 24 (f := .glo "begun")) (c.fact 25 (f := .keep "begun")) (fun _ _ _ _ _ _ us hl => match us, hl with | [_, _, _], _ => rfl)
  obtain ⟨fd_longer, D_longer⟩ := df_mk X G c (x := "longer") (s := sLonger) (ps := ["stages", "run", "number", "event"]) 13 rfl (c.fact 26 (f := .glo "longer")) (c.fact 27 (f := .keep "longer")) (fun _ _ _ _ _ _ us hl => match us, hl with | [_, _, _, _], _ => rfl)
  obtain ⟨fd_passed_by, D_passed_by⟩ := df_mk X G c (x := "passed_by") (s := sPassed_by) (ps := ["stages", "run", "event", "limit"]) 14 rfl (c.fact 28 (f := .glo "passed_by")) (c.fact 29 (f := .keep "passed_by")) (fun _ _ _ _ _ _ us hl => match us, hl with | [_, _, _, _], _ => rfl)
  obtain ⟨fd_taking, D_taking⟩ := df_mk X G c (x := "taking") (s := sTaking) (ps := ["stages", "run", "event", "limit"]) 15 rfl (c.fact 30 (f := .glo "taking")) (c.fact 31 (f := .keep "taking")) (fun _ _ _ _ _ _ us hl => match us, hl with | [_, _, _, _], _ => rfl)
  obtain ⟨fd_run_told, D_run_told⟩ := df_mk X G c (x := "run_told") (s := sTold) (ps := ["run"]) 17 rfl (c.fact 34 (f := .glo "run_told")) (c.fact 35 (f := .keep "run_told")) (fun _ _ _ _ _ _ us hl => match us, hl with | [_], _ => rfl)
  obtain ⟨fd_want, D_want⟩ := df_mk X G c (x := "want") (s := sWant) (ps := ["is_so", "number"]) 18 rfl (c.fact 36 (f := .glo "want")) (c.fact 37 (f := .keep "want")) (fun _ _ _ _ _ _ us hl => match us, hl with | [_, _], _ => rfl)
  obtain ⟨fd_is_stage, D_is_stage⟩ := df_mk X G c (x := "is_stage") (s := sIsStage) (ps := ["row"]) 19 rfl (c.fact 38 (f := .glo "is_stage")) (c.fact 39 (f := .keep "is_stage")) (fun _ _ _ _ _ _ us hl => match us, hl with | [_], _ => rfl)
  obtain ⟨fd_is_skip, D_is_skip⟩ := df_mk X G c (x := "is_skip") (s := sIsSkip) (ps := ["way", "pivot", "many"]) 20 rfl (c.fact 40 (f := .glo "is_skip")) (c.fact 41 (f := .keep "is_skip")) (fun _ _ _ _ _ _ us hl => match us, hl with | [_, _, _], _ => rfl)
  obtain ⟨fd_rows_of, D_rows_of⟩ := df_mk X G c (x := "rows_of") (s := sRows) (ps := ["numbers"]) 21 rfl (c.fact 42 (f := .glo "rows_of")) (c.fact 43 (f := .keep "rows_of")) (fun _ _ _ _ _ _ us hl => match us, hl with | [_], _ => rfl)
  obtain ⟨fd_of_call, D_of_call⟩ := df_mk X G c (x := "of_call") (s := sOf) (ps := ["desk", "call", "own", "row"]) 22 rfl (c.fact 44 (f := .glo "of_call")) (c.fact 45 (f := .keep "of_call")) (fun _ _ _ _ _ _ us hl => match us, hl with | [_, _, _, _], _ => rfl)
  obtain ⟨fd_answer, D_answer⟩ := df_mk X G c (x := "answer") (s := sAnswer) (ps := ["desk", "call", "own", "row"]) 23 rfl (c.fact 46 (f := .glo "answer")) (c.fact 47 (f := .keep "answer")) (fun _ _ _ _ _ _ us hl => match us, hl with | [_, _, _, _], _ => rfl)
  obtain ⟨fd_answers, D_answers⟩ := df_mk X G c (x := "answers") (s := sAnswers) (ps := ["calls"]) 24 rfl (c.fact 48 (f := .glo "answers")) (c.fact 49 (f := .keep "answers")) (fun _ _ _ _ _ _ us hl => match us, hl with | [_], _ => rfl)
  obtain ⟨fd_M_Stage_init, M_Stage_init⟩ := mt_mk c (C := "Stage") (m := "__init__") (qn := "Stage.__init__") (s := sStageI) (ps := ["self", "numbers"]) 25 rfl (c.fact 94 (f := .meth "Stage" "__init__")) (fun _ _ _ _ _ _ us hl => match us, hl with | [_, _], _ => rfl)
  obtain ⟨fd_M_Event_init, M_Event_init⟩ := mt_mk c (C := "Event") (m := "__init__") (qn := "Event.__init__") (s := sEventI) (ps := ["self", "number", "kind", "value", "time"]) 26 rfl (c.fact 95 (f := .meth "Event" "__init__")) (fun _ _ _ _ _ _ us hl => match us, hl with | [_, _, _, _, _], _ => rfl)
  obtain ⟨fd_M_Run_init, M_Run_init⟩ := mt_mk c (C := "Run") (m := "__init__") (qn := "Run.__init__") (s := sRunI) (ps := ["self", "taken", "first", "last", "open_ones"]) 27 rfl (c.fact 96 (f := .meth "Run" "__init__")) (fun _ _ _ _ _ _ us hl => match us, hl with | [_, _, _, _, _], _ => rfl)
  obtain ⟨fd_M_Run_begin, M_Run_begin⟩ := mt_mk c (C := "Run") (m := "begin") (qn := "Run.begin") (s := sBegin) (ps := ["self"]) 28 rfl (c.fact 97 (f := .meth "Run" "begin")) (fun _ _ _ _ _ _ us hl => match us, hl with | [_], _ => rfl)
  obtain ⟨fd_M_Run_stage, M_Run_stage⟩ := mt_mk c (C := "Run") (m := "stage") (qn := "Run.stage") (s := sStageM) (ps := ["self"]) 29 rfl (c.fact 98 (f := .meth "Run" "stage")) (fun _ _ _ _ _ _ us hl => match us, hl with | [_], _ => rfl)
  obtain ⟨fd_M_Skip_init, M_Skip_init⟩ := mt_mk c (C := "Skip") (m := "__init__") (qn := "Skip.__init__") (s := sSkipI) (ps := ["self", "way", "pivot"]) 30 rfl (c.fact 99 (f := .meth "Skip" "__init__")) (fun _ _ _ _ _ _ us hl => match us, hl with | [_, _, _], _ => rfl)
  obtain ⟨fd_M_Skip_is_shut, M_Skip_is_shut⟩ := mt_mk c (C := "Skip") (m := "is_shut") (qn := "Skip.is_shut") (s := sShut) (ps := ["self", "run"]) 31 rfl (c.fact 100 (f := .meth "Skip" "is_shut")) (fun _ _ _ _ _ _ us hl => match us, hl with | [_, _], _ => rfl)
  obtain ⟨fd_M_Skip_pivot_event, M_Skip_pivot_event⟩ := mt_mk c (C := "Skip") (m := "pivot_event") (qn := "Skip.pivot_event") (s := sPivot) (ps := ["self", "match"]) 32 rfl (c.fact 101 (f := .meth "Skip" "pivot_event")) (fun _ _ _ _ _ _ us hl => match us, hl with | [_, _], _ => rfl)
  obtain ⟨fd_M_Skip_tell, M_Skip_tell⟩ := mt_mk c (C := "Skip") (m := "tell") (qn := "Skip.tell") (s := sTell) (ps := ["self", "match"]) 33 rfl (c.fact 102 (f := .meth "Skip" "tell")) (fun _ _ _ _ _ _ us hl => match us, hl with | [_, _], _ => rfl)
  obtain ⟨fd_M_Skip_copied, M_Skip_copied⟩ := mt_mk c (C := "Skip") (m := "copied") (qn := "Skip.copied") (s := sCopied) (ps := ["self"]) 34 rfl (c.fact 103 (f := .meth "Skip" "copied")) (fun _ _ _ _ _ _ us hl => match us, hl with | [_], _ => rfl)
  obtain ⟨fd_M_Desk_init, M_Desk_init⟩ := mt_mk c (C := "Desk") (m := "__init__") (qn := "Desk.__init__") (s := sDeskI) (ps := ["self"]) 35 rfl (c.fact 104 (f := .meth "Desk" "__init__")) (fun _ _ _ _ _ _ us hl => match us, hl with | [_], _ => rfl)
  obtain ⟨fd_M_Desk_pattern, M_Desk_pattern⟩ := mt_mk c (C := "Desk") (m := "pattern") (qn := "Desk.pattern") (s := sPattern) (ps := ["self", "way", "pivot", "limit", "numbers"]) 36 rfl (c.fact 105 (f := .meth "Desk" "pattern")) (fun _ _ _ _ _ _ us hl => match us, hl with | [_, _, _, _, _], _ => rfl)
  obtain ⟨fd_M_Desk_new_runs, M_Desk_new_runs⟩ := mt_mk c (C := "Desk") (m := "new_runs") (qn := "Desk.new_runs") (s := sNew) (ps := ["self", "event"]) 37 rfl (c.fact 106 (f := .meth "Desk" "new_runs")) (fun _ _ _ _ _ _ us hl => match us, hl with | [_, _], _ => rfl)
  obtain ⟨fd_M_Desk_event, M_Desk_event⟩ := mt_mk c (C := "Desk") (m := "event") (qn := "Desk.event") (s := sEvent) (ps := ["self", "kind", "value", "time"]) 38 rfl (c.fact 107 (f := .meth "Desk" "event")) (fun _ _ _ _ _ _ us hl => match us, hl with | [_, _, _, _], _ => rfl)
  obtain ⟨fd_M_Desk_runs, M_Desk_runs⟩ := mt_mk c (C := "Desk") (m := "runs") (qn := "Desk.runs") (s := sRuns) (ps := ["self"]) 39 rfl (c.fact 108 (f := .meth "Desk" "runs")) (fun _ _ _ _ _ _ us hl => match us, hl with | [_], _ => rfl)
  obtain ⟨fd_M_Desk_counts, M_Desk_counts⟩ := mt_mk c (C := "Desk") (m := "counts") (qn := "Desk.counts") (s := sCounts) (ps := ["self"]) 40 rfl (c.fact 109 (f := .meth "Desk" "counts")) (fun _ _ _ _ _ _ us hl => match us, hl with | [_], _ => rfl)
  obtain ⟨fd_M_Desk_earliest, M_Desk_earliest⟩ := mt_mk c (C := "Desk") (m := "earliest") (qn := "Desk.earliest") (s := sFirst) (ps := ["self"]) 41 rfl (c.fact 110 (f := .meth "Desk" "earliest")) (fun _ _ _ _ _ _ us hl => match us, hl with | [_], _ => rfl)
  obtain ⟨fd_M_Refused_init, M_Refused_init⟩ := mt_mk c (C := "Refused") (m := "__init__") (qn := "Refused.__init__") (s := sRefI) (ps := ["self", "number"]) 42 rfl (c.fact 111 (f := .meth "Refused" "__init__")) (fun _ _ _ _ _ _ us hl => match us, hl with | [_, _], _ => rfl)
  have i_ANY_KIND : CI mg "ANY_KIND" (10) := He.int_ok X G (c.fact 112 (f := .int "ANY_KIND" (10)))
  have i_PERHAPS : CI mg "PERHAPS" (1) := He.int_ok X G (c.fact 113 (f := .int "PERHAPS" (1)))
  have i_ANY : CI mg "ANY" (3) := He.int_ok X G (c.fact 114 (f := .int "ANY" (3)))
  have i_NONE_BETWEEN : CI mg "NONE_BETWEEN" (4) := He.int_ok X G (c.fact 115 (f := .int "NONE_BETWEEN" (4)))
  have i_SOME : CI mg "SOME" (2) := He.int_ok X G (c.fact 116 (f := .int "SOME" (2)))
  have i_AT_ONCE : CI mg "AT_ONCE" (0) := He.int_ok X G (c.fact 117 (f := .int "AT_ONCE" (0)))
  have i_NEXT_FITTING : CI mg "NEXT_FITTING" (1) := He.int_ok X G (c.fact 118 (f := .int "NEXT_FITTING" (1)))
  have i_BEHIND_LAST : CI mg "BEHIND_LAST" (1) := He.int_ok X G (c.fact 119 (f := .int "BEHIND_LAST" (1)))
  have i_SAME_BEGIN : CI mg "SAME_BEGIN" (2) := He.int_ok X G (c.fact 120 (f := .int "SAME_BEGIN" (2)))
  have i_BEHIND_PIVOT : CI mg "BEHIND_PIVOT" (3) := He.int_ok X G (c.fact 121 (f := .int "BEHIND_PIVOT" (3)))
  have i_MOST_FOLLOWS : CI mg "MOST_FOLLOWS" (2) := He.int_ok X G (c.fact 122 (f := .int "MOST_FOLLOWS" (2)))
  have i_MOST_TEST : CI mg "MOST_TEST" (6) := He.int_ok X G (c.fact 123 (f := .int "MOST_TEST" (6)))
  have i_GREATEST : CI mg "GREATEST" (1000000) := He.int_ok X G (c.fact 124 (f := .int "GREATEST" (1000000)))
  have i_NUMBERS_EACH : CI mg "NUMBERS_EACH" (6) := He.int_ok X G (c.fact 125 (f := .int "NUMBERS_EACH" (6)))
  have i_NEVER : CI mg "NEVER" (0) := He.int_ok X G (c.fact 126 (f := .int "NEVER" (0)))
  have i_MOST_STAGES : CI mg "MOST_STAGES" (8) := He.int_ok X G (c.fact 127 (f := .int "MOST_STAGES" (8)))
  have i_WRONG_LENGTH : CI mg "WRONG_LENGTH" (-1) := He.int_ok X G (c.fact 128 (f := .int "WRONG_LENGTH" (-1)))
  have i_WRONG_STAGE : CI mg "WRONG_STAGE" (-2) := He.int_ok X G (c.fact 129 (f := .int "WRONG_STAGE" (-2)))
  have i_WRONG_END : CI mg "WRONG_END" (-3) := He.int_ok X G (c.fact 130 (f := .int "WRONG_END" (-3)))
  have i_WRONG_SKIP : CI mg "WRONG_SKIP" (-4) := He.int_ok X G (c.fact 131 (f := .int "WRONG_SKIP" (-4)))
  have i_WRONG_TIME : CI mg "WRONG_TIME" (-5) := He.int_ok X G (c.fact 132 (f := .int "WRONG_TIME" (-5)))
  have i_MOST_KIND : CI mg "MOST_KIND" (9) := He.int_ok X G (c.fact 133 (f := .int "MOST_KIND" (9)))
  have i_MOST_RUNS : CI mg "MOST_RUNS" (300) := He.int_ok X G (c.fact 134 (f := .int "MOST_RUNS" (300)))
  have i_WRONG_EVENT : CI mg "WRONG_EVENT" (-1) := He.int_ok X G (c.fact 135 (f := .int "WRONG_EVENT" (-1)))
  have i_TOO_EARLY : CI mg "TOO_EARLY" (-2) := He.int_ok X G (c.fact 136 (f := .int "TOO_EARLY" (-2)))
  have i_TOO_MUCH : CI mg "TOO_MUCH" (-9) := He.int_ok X G (c.fact 137 (f := .int "TOO_MUCH" (-9)))
  have i_PATTERN : CI mg "PATTERN" (0) := He.int_ok X G (c.fact 138 (f := .int "PATTERN" (0)))
  have n_len : mg "len" = none := He.free_ok X G (c.fact 139 (f := .free "len"))
  have n_all : mg "all" = none := He.free_ok X G (c.fact 140 (f := .free "all"))
  have n_enumerate : mg "enumerate" = none := He.free_ok X G (c.fact 141 (f := .free "enumerate"))
  have n_range : mg "range" = none := He.free_ok X G (c.fact 142 (f := .free "range"))
  have n_any : mg "any" = none := He.free_ok X G (c.fact 143 (f := .free "any"))
  have n_sorted : mg "sorted" = none := He.free_ok X G (c.fact 144 (f := .free "sorted"))
  have n_max : mg "max" = none := He.free_ok X G (c.fact 145 (f := .free "max"))
  have n_dict : mg "dict" = none := He.free_ok X G (c.fact 146 (f := .free "dict"))
  have n_divmod : mg "divmod" = none := He.free_ok X G (c.fact 147 (f := .free "divmod"))
  have n_min : mg "min" = none := He.free_ok X G (c.fact 148 (f := .free "min"))
  have n_ValueError : mg "ValueError" = none := He.free_ok X G (c.fact 149 (f := .free "ValueError"))
  have g_Stage := He.glo_ok X G (c.fact 50 (f := .glo "Stage"))
  have k_Stage := He.mkr_ok (c.fact 52 (f := .mkr "Stage"))
  have g_Event := He.glo_ok X G (c.fact 59 (f := .glo "Event"))
  have k_Event := He.mkr_ok (c.fact 61 (f := .mkr "Event"))
  have g_Run := He.glo_ok X G (c.fact 66 (f := .glo "Run"))
  have k_Run := He.mkr_ok (c.fact 68 (f := .mkr "Run"))
  have g_Skip := He.glo_ok X G (c.fact 73 (f := .glo "Skip"))
  have k_Skip := He.mkr_ok (c.fact 75 (f := .mkr "Skip"))
  have g_Desk := He.glo_ok X G (c.fact 80 (f := .glo "Desk"))
  have k_Desk := He.mkr_ok (c.fact 82 (f := .mkr "Desk"))
  have T : Txt K ⟨He.ga K "Stage", He.ga K "Event", He.ga K "Run", He.ga K "Skip", He.ga K "Desk"⟩ := ⟨He.cls_ok (c.fact 51 (f := .cls "Stage")), He.noat_ok (c.fact 53 (f := .noat "Stage" "form")), He.noat_ok (c.fact 54 (f := .noat "Stage" "follows")), He.noat_ok (c.fact 55 (f := .noat "Stage" "repeats")), He.noat_ok (c.fact 56 (f := .noat "Stage" "kind")), He.noat_ok (c.fact 57 (f := .noat "Stage" "test")), He.noat_ok (c.fact 58 (f := .noat "Stage" "bound")), He.cls_ok (c.fact 60 (f := .cls "Event")), He.noat_ok (c.fact 62 (f := .noat "Event" "number")), He.noat_ok (c.fact 63 (f := .noat "Event" "kind")), He.noat_ok (c.fact 64 (f := .noat "Event" "value")), He.noat_ok (c.fact 65 (f := .noat "Event" "time")), He.cls_ok (c.fact 67 (f := .cls "Run")), He.noat_ok (c.fact 69 (f := .noat "Run" "taken")), He.noat_ok (c.fact 70 (f := .noat "Run" "first")), He.noat_ok (c.fact 71 (f := .noat "Run" "last")), He.noat_ok (c.fact 72 (f := .noat "Run" "open_ones")), He.cls_ok (c.fact 74 (f := .cls "Skip")), He.noat_ok (c.fact 76 (f := .noat "Skip" "way")), He.noat_ok (c.fact 77 (f := .noat "Skip" "pivot")), He.noat_ok (c.fact 78 (f := .noat "Skip" "shut_to")), He.noat_ok (c.fact 79 (f := .noat "Skip" "shut_begins")), He.cls_ok (c.fact 81 (f := .cls "Desk")), He.noat_ok (c.fact 83 (f := .noat "Desk" "stages")), He.noat_ok (c.fact 84 (f := .noat "Desk" "limit")), He.noat_ok (c.fact 85 (f := .noat "Desk" "skip")), He.noat_ok (c.fact 86 (f := .noat "Desk" "kept")), He.noat_ok (c.fact 87 (f := .noat "Desk" "came")), He.noat_ok (c.fact 88 (f := .noat "Desk" "now")), He.noat_ok (c.fact 89 (f := .noat "Desk" "many_told"))⟩
  obtain ⟨m1, hm⟩ := both hm
  obtain ⟨m2, hm⟩ := both hm
  obtain ⟨m3, hm⟩ := both hm
  obtain ⟨m4, hm⟩ := both hm
  obtain ⟨m5, m6⟩ := both hm
  obtain ⟨NA, mN, hN⟩ := tup_ok X G m1
  have xf := xfB_ok m3
  have gR := He.glo_ok X G (c.fact 90 (f := .glo "Refused"))
  have R : RTxt K mg (He.ga K "Refused") (He.ma K (He.ga K "Refused") "__init__") := ⟨⟨oex_ok m2, He.eqO_ok m5, xf.exC, of_decide_eq_true m6, He.keep_ok (c.fact 93 (f := .keep "Refused"))⟩, xf, He.noat_ok (c.fact 91 (f := .noat "Refused" "number")), M_Refused_init.m.at_, of_decide_eq_true m4, gR, He.exm_ok (c.fact 92 (f := .exm "Refused" "Refused" true)), n_ValueError, vV⟩
  obtain ⟨oc, od, osl, kV, doc, pm, an, cdv, ct, lk, hcd⟩ := c.def_ 16 (d := ⟨("in_order", none), "in_order", "in_order", defArgs sOrder, defBody sOrder, defScope sOrder⟩) rfl
  have gO := He.glo_ok X G (c.fact 32 (f := .glo "in_order"))
  have ecd : cdv = .ref cT := PySem.W.law_code X G ht gO (X _ _ lk) rfl
  subst ecd
  have FO := fun_mk (st := sOrder) (f := He.ga K "in_order") lk hcd (He.keep_ok (c.fact 33 (f := .keep "in_order")))
  have D_in_order : Df K mg "in_order" sOrder ["runs"] (He.ga K "in_order") _ := ⟨FO, gO, FO.binds (ps := ["runs"]) (fun _ _ _ _ _ _ us hl => match us, hl with | [_], _ => rfl)⟩
  obtain ⟨hC, hT⟩ := PySem.W.tab_of TP X hr ht
  have e := hfa.symm.trans D_answers.g
  cases e
  refine ⟨fd_answers, cT, PT, hT, nT, hC, fun s us hl => ?_, fun base _ _ TB => ?_⟩
  · obtain ⟨oc, od, kV, doc, pm, an, cdv, ct, osl, e1, e2, e3⟩ := D_answers.F.ex
    subst e1
    match us, hl with
    | [_], _ => exact .of_eq rfl
  have G_is_passed := ok_passed (P := P) (w := w) (mg := mg) (base := base) D_is_passed.F T
  have G_is_of_kind := ok_kind (P := P) (w := w) (mg := mg) (base := base) D_is_of_kind.F T i_ANY_KIND
  have G_fits_first := ok_fitsF (P := P) (w := w) (mg := mg) (base := base) D_fits_first.F T D_is_of_kind D_is_passed G_is_of_kind G_is_passed
  have G_left := ok_left (P := P) (w := w) (mg := mg) (base := base) D_may_be_left_out.F T i_PERHAPS i_ANY i_NONE_BETWEEN n_all
  have G_firsts := ok_firsts (P := P) (w := w) (mg := mg) (base := base) D_firsts.F T D_may_be_left_out G_left i_NONE_BETWEEN n_enumerate
  have G_nexts := ok_nexts (P := P) (w := w) (mg := mg) (base := base) D_nexts.F T D_may_be_left_out G_left i_SOME i_ANY i_NONE_BETWEEN n_range n_len
  have G_barred := ok_barred (P := P) (w := w) (mg := mg) (base := base) D_barred_between.F T i_NONE_BETWEEN
  have G_end := ok_end (P := P) (w := w) (mg := mg) (base := base) D_is_end.F D_may_be_left_out G_left n_len
  have G_stageI := ok_stageI (P := P) (w := w) (mg := mg) (base := base) M_Stage_init.F T
  have G_eventI := ok_eventI (P := P) (w := w) (mg := mg) (base := base) M_Event_init.F T
  have G_runI := ok_runI (P := P) (w := w) (mg := mg) (base := base) M_Run_init.F T
  have G_skipI := ok_skipI (P := P) (w := w) (mg := mg) (base := base) M_Skip_init.F T
  have G_begin := ok_begin (P := P) (w := w) (mg := mg) (base := base) M_Run_begin.F T
  have G_stageM := ok_stageM (P := P) (w := w) (mg := mg) (base := base) M_Run_stage.F T
  have G_fits := ok_fits (P := P) (w := w) (mg := mg) (base := base) D_fits.F T D_is_of_kind D_is_passed G_is_of_kind G_is_passed
  have G_time := ok_time (P := P) (w := w) (mg := mg) (base := base) D_is_in_time.F T
  have G_follow := ok_follow (P := P) (w := w) (mg := mg) (base := base) D_following.F T M_Run_stage G_stageM
  have G_stays := ok_stays (P := P) (w := w) (mg := mg) (base := base) D_stays_open.F T M_Run_stage G_stageM D_following G_follow D_fits G_fits D_barred_between G_barred i_AT_ONCE i_NEXT_FITTING n_any
  have G_begun := ok_begun (P := P) (w := w) (mg := mg) (base := base) D_begun.F T D_nexts G_nexts k_Run g_Run M_Run_init.b G_runI
  have G_longer := ok_longer (P := P) (w := w) (mg := mg) (base := base) D_longer.F T D_nexts G_nexts k_Run g_Run M_Run_init.b G_runI
  have G_passed_by := ok_passed_by (P := P) (w := w) (mg := mg) (base := base) D_passed_by.F T D_is_in_time G_time D_stays_open G_stays k_Run g_Run M_Run_init.b G_runI
  have G_taking := ok_taking (P := P) (w := w) (mg := mg) (base := base) D_taking.F T D_is_in_time G_time D_fits G_fits D_longer G_longer
  have G_order := ok_order (P := P) (w := w) (mg := mg) (base := base) lk hcd T TB n_sorted
  have G_shut := ok_shut (P := P) (w := w) (mg := mg) (base := base) M_Skip_is_shut.F T M_Run_begin G_begin
  have G_pivot := ok_pivot (P := P) (w := w) (mg := mg) (base := base) M_Skip_pivot_event.F T
  have G_tell := ok_tell (P := P) (w := w) (mg := mg) (base := base) M_Skip_tell.F T M_Run_begin G_begin M_Skip_pivot_event G_pivot i_BEHIND_LAST i_SAME_BEGIN i_BEHIND_PIVOT n_max
  have G_copied := ok_copied (P := P) (w := w) (mg := mg) (base := base) M_Skip_copied.F T k_Skip g_Skip M_Skip_init.b G_skipI n_dict
  have G_told := ok_told (P := P) (w := w) (mg := mg) (base := base) D_run_told.F T n_len
  have G_refI := ok_refI (P := P) (w := w) (mg := mg) (base := base) M_Refused_init.F R
  have G_want := ok_want (P := P) (w := w) (mg := mg) (base := base) D_want.F R M_Refused_init.b G_refI
  have G_isStage := ok_isStage (P := P) (w := w) (mg := mg) (base := base) (c := ⟨He.ga K "Stage", He.ga K "Event", He.ga K "Run", He.ga K "Skip", He.ga K "Desk"⟩) D_is_stage.F i_NONE_BETWEEN i_MOST_FOLLOWS i_ANY_KIND i_MOST_TEST i_GREATEST i_SOME i_ANY
  have G_isSkip := ok_isSkip (P := P) (w := w) (mg := mg) (base := base) (c := ⟨He.ga K "Stage", He.ga K "Event", He.ga K "Run", He.ga K "Skip", He.ga K "Desk"⟩) D_is_skip.F i_BEHIND_PIVOT
  have G_rows := ok_rows (P := P) (w := w) (mg := mg) (base := base) D_rows_of.F i_NUMBERS_EACH n_range n_len
  have G_new := ok_new (P := P) (w := w) (mg := mg) (base := base) M_Desk_new_runs.F T D_taking G_taking D_firsts G_firsts D_fits_first G_fits_first D_begun G_begun
  have G_runs := ok_runs (P := P) (w := w) (mg := mg) (base := base) M_Desk_runs.F T D_run_told G_told n_len
  have G_counts := ok_counts (P := P) (w := w) (mg := mg) (base := base) M_Desk_counts.F T
  have G_first := ok_first (P := P) (w := w) (mg := mg) (base := base) M_Desk_earliest.F T M_Run_begin G_begin n_min
  have G_deskI := ok_deskI (P := P) (w := w) (mg := mg) (base := base) M_Desk_init.F T k_Stage g_Stage M_Stage_init.b G_stageI k_Skip g_Skip M_Skip_init.b G_skipI i_NEVER
  have G_pattern := ok_pattern (P := P) (w := w) (mg := mg) (base := base) M_Desk_pattern.F T D_want G_want D_rows_of G_rows D_is_stage G_isStage D_is_skip G_isSkip k_Stage g_Stage M_Stage_init.b G_stageI k_Skip g_Skip M_Skip_init.b G_skipI i_NUMBERS_EACH i_MOST_STAGES i_NONE_BETWEEN i_GREATEST i_WRONG_LENGTH i_WRONG_STAGE i_WRONG_END i_WRONG_SKIP i_WRONG_TIME n_len n_divmod n_all
  have G_event := ok_event (P := P) (w := w) (mg := mg) (base := base) M_Desk_event.F T D_want G_want k_Event g_Event M_Event_init.b G_eventI M_Desk_new_runs G_new D_is_end G_end D_in_order G_order M_Skip_copied G_copied M_Skip_is_shut G_shut M_Skip_tell G_tell D_passed_by G_passed_by D_run_told G_told M_Run_stage G_stageM i_MOST_KIND i_GREATEST i_MOST_RUNS i_WRONG_EVENT i_TOO_EARLY i_TOO_MUCH n_len
  have G_of := ok_of (P := P) (w := w) (mg := mg) (base := base) D_of_call.F T M_Desk_pattern G_pattern M_Desk_event G_event M_Desk_runs G_runs M_Desk_counts G_counts M_Desk_earliest G_first i_PATTERN
  have G_answer := ok_answer (P := P) (w := w) (mg := mg) (base := base) D_answer.F R D_of_call G_of
  exact ok_answers D_answers.F T D_answer G_answer k_Desk g_Desk M_Desk_init.b G_deskI mN hN i_PATTERN n_len
end G

/-! ## PRfin -/
open PySem PySem.W PyProof.Rows
set_option maxRecDepth 100000 in
set_option maxHeartbeats 8000000 in
theorem PySem.Challenge.cw_patternruns_s01_answers_holds : PySem.Challenge.rw_patternruns_s01_answers.Holds := by
  w_on; k_headS; (case hw => exact ⟨[.list [.int 2]], by decide +kernel, by decide +kernel⟩)
  k_fillS
  refine G.walk_specT (r := PySem.Challenge.rw_patternruns_s01_answers) (k := 9) (CX := L2.CX0) (ps := ["calls"]) (sp := G.spAnswers) (by decide +kernel) rfl ⟨rfl, by decide, by decide⟩ (fun w h Y => PySem.W.kIn_of Y) ?F ?S (fun _ _ _ _ z => z)
  case F =>
    intro w mg mb fa h ls mean Y KX TP hmg
    refine G.all_mk KX TP hmg ?c ?hm ?vV ?hr ?ht
    (case hr => kernel_rfl)
    (case ht => kernel_rfl)
    (case hm => kernel_rfl)
    (case vV => k_is)
    (case c => unfold He.SaysE; kernel_rfl)
  case S =>
    intro K T H0 H xs a hs hH hwi hask hx
    cases hx with
    | cons h1 h2 =>
      cases h2
      cases h1 with
      | lst hq ha =>
        have e := L2.ints_dw a.1 _ ha
        subst e
        exact ⟨_, a.1, rfl, hs.seq hq, hH, hask, fun H' p hp => .lst (L2.SqL.of hp) (L2.dw_ints _)⟩
