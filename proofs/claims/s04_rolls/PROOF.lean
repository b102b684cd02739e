import PyProof.Rows.All
import Wide.All
import OpenK.AllK
import Wide.FinOn
import PyProof.EqAt
import PyProof.EqKinds
import PyProof.TupleCall
import Open.SpecLaws
import KE.OsGo
import PySem.Challenge.RW_paperweb_s04_rolls
import HandS.ForSpec
import HandS.Comp
import HandS.Iter
import HandS.Walk
import HandS.More
import HandS.ExcInit
import HandS.ExcField
set_option Elab.async false
set_option linter.all false
set_option maxRecDepth 100000
set_option maxHeartbeats 2000000
/-! The mathematics of the web: the program's own functions as plain Lean (namespace Web), and that they are the specification's. No program in sight. -/
namespace Web
open Kza4

/-! ### good -/
def goods (lo hi : Nat) (l : List Nat) : List Nat := (List.range l.length).filter (isGood lo hi l)

/-! ### stretches -/
/-- one turn of stretches' loop -/
def push (f : List (List Nat)) (n : Nat) : List (List Nat) :=
  match f.getLast? with
  | none => f ++ [[n]]
  | some s => match s.getLast? with
    | none => f ++ [[n]]
    | some m => if m + 1 = n then f.dropLast ++ [s ++ [n]] else f ++ [[n]]
def stre (l : List Nat) : List (List Nat) := l.foldl push []
theorem push_nil (n : Nat) : push [] n = [[n]] := rfl
theorem push_on {f : List (List Nat)} {s : List Nat} {m n : Nat} (h : m + 1 = n) : push (f ++ [s ++ [m]]) n = f ++ [s ++ [m] ++ [n]] := by
  unfold push
  simp [h]
theorem push_new {f : List (List Nat)} {s : List Nat} {m n : Nat} (h : ¬ m + 1 = n) : push (f ++ [s ++ [m]]) n = f ++ [s ++ [m]] ++ [[n]] := by
  unfold push
  simp [h]
theorem stre_snoc (l : List Nat) (n : Nat) : stre (l ++ [n]) = push (stre l) n := by
  unfold stre
  rw [List.foldl_append]
  rfl
/-- what stands ahead of the last stretch is let be -/
theorem fold_ahead : ∀ (l : List Nat) (f : List (List Nat)) (s : List Nat) (m : Nat), l.foldl push (f ++ [s ++ [m]]) = f ++ l.foldl push [s ++ [m]]
  | [], _, _, _ => rfl
  | n :: l, f, s, m => by
    rw [List.foldl_cons, List.foldl_cons]
    by_cases h : m + 1 = n
    · have e : push [s ++ [m]] n = [s ++ [m] ++ [n]] := push_on (f := []) h
      rw [push_on h, e, fold_ahead l f (s ++ [m]) n]
    · have e : push [s ++ [m]] n = [s ++ [m]] ++ [[n]] := push_new (f := []) h
      have z : ([n] : List Nat) = [] ++ [n] := rfl
      rw [push_new h, e, z, fold_ahead l (f ++ [s ++ [m]]) [] n, fold_ahead l [s ++ [m]] [] n, List.append_assoc]
theorem pieces_cons (m : Nat) : ∀ l : List Nat, ∃ x r, pieces (m :: l) = x :: r
  | [] => ⟨1, [], rfl⟩
  | b :: l => by
    obtain ⟨x, r, h⟩ := pieces_cons b l
    unfold pieces
    rw [h]
    dsimp only
    split
    · exact ⟨_, _, rfl⟩
    · exact ⟨_, _, rfl⟩
theorem fold_pieces : ∀ (l : List Nat) (s : List Nat) (m x : Nat) (r : List Nat), pieces (m :: l) = x :: r → (l.foldl push [s ++ [m]]).map List.length = (s.length + x) :: r
  | [], s, m, x, r, h => by
    have e : ([1] : List Nat) = x :: r := h
    cases e
    simp
  | b :: l, s, m, x, r, h => by
    obtain ⟨y, t, hy⟩ := pieces_cons b l
    unfold pieces at h
    rw [hy] at h
    dsimp only at h
    rw [List.foldl_cons]
    by_cases c : m + 1 = b
    · have e : push [s ++ [m]] b = [s ++ [m] ++ [b]] := push_on (f := []) c
      rw [if_pos c.symm] at h
      cases h
      rw [e, fold_pieces l (s ++ [m]) b y _ hy]
      simp
      omega
    · have e : push [s ++ [m]] b = [s ++ [m]] ++ [[b]] := push_new (f := []) c
      have z : ([b] : List Nat) = [] ++ [b] := rfl
      rw [if_neg (fun q => c q.symm)] at h
      cases h
      rw [e, z, fold_ahead l [s ++ [m]] [] b, List.map_append, fold_pieces l [] b y t hy]
      simp
/-- **stretches' lengths are the specification's pieces** -/
theorem stre_pieces : ∀ l : List Nat, (stre l).map List.length = pieces l
  | [] => rfl
  | m :: l => by
    obtain ⟨x, r, h⟩ := pieces_cons m l
    have e := fold_pieces l [] m x r h
    rw [h]
    show (l.foldl push [[] ++ [m]]).map List.length = x :: r
    rw [e]
    simp
/-! every stretch has an item -/
theorem push_ne {f : List (List Nat)} (n : Nat) (h : ∀ s ∈ f, s ≠ []) : ∀ s ∈ push f n, s ≠ [] := by
  intro s hs
  unfold push at hs
  split at hs
  · rcases List.mem_append.mp hs with q | q
    · exact h s q
    · simp at q; subst q; simp
  · split at hs
    · rcases List.mem_append.mp hs with q | q
      · exact h s q
      · simp at q; subst q; simp
    · split at hs
      · rcases List.mem_append.mp hs with q | q
        · exact h s (List.dropLast_subset f q)
        · simp at q; subst q; simp
      · rcases List.mem_append.mp hs with q | q
        · exact h s q
        · simp at q; subst q; simp
theorem fold_ne : ∀ (l : List Nat) (f : List (List Nat)), (∀ s ∈ f, s ≠ []) → ∀ s ∈ l.foldl push f, s ≠ []
  | [], _, h => h
  | n :: l, f, h => fold_ne l (push f n) (push_ne n h)
theorem stre_ne (l : List Nat) : ∀ s ∈ stre l, s ≠ [] := fold_ne l [] (by simp)
/-- the state of stretches' loop: empty, or with a last stretch that has a last item -/
theorem ne_cases {f : List (List Nat)} (h : ∀ s ∈ f, s ≠ []) : f = [] ∨ ∃ g s m, f = g ++ [s ++ [m]] := by
  rcases List.eq_nil_or_concat f with e | ⟨g, t, e⟩
  · exact .inl e
  · right
    rw [List.concat_eq_append] at e
    rcases List.eq_nil_or_concat t with q | ⟨s, m, q⟩
    · exact absurd q (h t (by rw [e]; simp))
    · rw [List.concat_eq_append] at q
      exact ⟨g, s, m, by rw [e, q]⟩
theorem push_len (f : List (List Nat)) (n : Nat) : (push f n).length ≤ f.length + 1 := by
  unfold push
  split
  · simp
  · split
    · simp
    · split
      · simp
      · simp
theorem fold_len : ∀ (l : List Nat) (f : List (List Nat)), (l.foldl push f).length ≤ f.length + l.length
  | [], f => by simp
  | n :: l, f => by
    have a := fold_len l (push f n)
    have b := push_len f n
    rw [List.foldl_cons, List.length_cons]
    omega
theorem stre_len (l : List Nat) : (stre l).length ≤ l.length := by
  have := fold_len l []
  simpa [stre] using this
/-- put together the stretches are the row again -/
theorem push_flat {f : List (List Nat)} (n : Nat) (h : ∀ s ∈ f, s ≠ []) : (push f n).flatten = f.flatten ++ [n] := by
  rcases ne_cases h with e | ⟨g, s, m, e⟩
  · subst e; rfl
  · subst e
    by_cases c : m + 1 = n
    · rw [push_on c]; simp
    · rw [push_new c]; simp
theorem fold_flat : ∀ (l : List Nat) (f : List (List Nat)), (∀ s ∈ f, s ≠ []) → (l.foldl push f).flatten = f.flatten ++ l
  | [], f, _ => by simp
  | n :: l, f, h => by
    rw [List.foldl_cons, fold_flat l _ (push_ne n h), push_flat n h, List.append_assoc]
    rfl
theorem stre_flat (l : List Nat) : (stre l).flatten = l := by
  have e := fold_flat l [] (by simp)
  simpa [stre] using e
theorem mem_len {l : List Nat} {s : List Nat} (h : s ∈ stre l) : s.length ≤ l.length := by
  have e := stre_flat l
  have q := (List.sublist_flatten_of_mem h).length_le
  rw [e] at q
  exact q

/-! ### the runs -/
section
variable {lo hi : Nat} {l : List Nat}
/-- a stretch that is a whole run: from a on k sections, all good; none ahead; none behind -/
structure Run (lo hi : Nat) (l : List Nat) (s : List Nat) (a k : Nat) : Prop where
  eq : s = List.range' a k
  pos : 1 ≤ k
  good : ∀ i, a ≤ i → i < a + k → isGood lo hi l i = true
  ahead : upTo lo hi l a = 0
/-- the loop's state when the sections up to i are looked at -/
structure At (lo hi : Nat) (l : List Nat) (i : Nat) (f : List (List Nat)) : Prop where
  runs : ∀ s ∈ f, ∃ a k, Run lo hi l s a k ∧ a + k ≤ i ∧ (a + k < i → isGood lo hi l (a + k) = false)
  last : ∀ g s, f = g ++ [s] → ∀ t ∈ g, ∃ a k, Run lo hi l t a k ∧ a + k < i ∧ isGood lo hi l (a + k) = false
  up0 : f = [] → upTo lo hi l i = 0
  up : ∀ g s, f = g ++ [s] → ∃ a k, Run lo hi l s a k ∧ a + k ≤ i ∧ (a + k = i → upTo lo hi l i = k) ∧ (a + k < i → upTo lo hi l i = 0 ∧ isGood lo hi l (a + k) = false)
theorem range'_snoc (a k : Nat) : List.range' a (k + 1) = List.range' a k ++ [a + k] := by
  rw [List.range'_concat]
  simp
theorem range'_last {a k : Nat} {s : List Nat} {m : Nat} (h : s ++ [m] = List.range' a k) (hk : 1 ≤ k) : m + 1 = a + k := by
  obtain ⟨k', rfl⟩ : ∃ k', k = k' + 1 := ⟨k - 1, by omega⟩
  rw [range'_snoc] at h
  have e := (List.append_inj' h rfl).2
  cases e
  omega
theorem snoc_inj {α : Type} {g g' : List α} {s s' : α} (h : g ++ [s] = g' ++ [s']) : g = g' ∧ s = s' := by
  have e := List.append_inj' h rfl
  exact ⟨e.1, by simpa using e.2⟩
theorem at_none {i : Nat} {f : List (List Nat)} (A : At lo hi l i f) (hb : isGood lo hi l i = false) : At lo hi l (i + 1) f := by
  have u : upTo lo hi l (i + 1) = 0 := by
    show (if isGood lo hi l i = true then _ else 0) = 0
    rw [hb]
    rfl
  refine ⟨fun s hs => ?_, fun g s e t ht => ?_, fun _ => u, fun g s e => ?_⟩
  · obtain ⟨a, k, R, h1, h2⟩ := A.runs s hs
    refine ⟨a, k, R, by omega, fun q => ?_⟩
    by_cases c : a + k < i
    · exact h2 c
    · have z : a + k = i := by omega
      rw [z]
      exact hb
  · obtain ⟨a, k, R, h1, h2⟩ := A.last g s e t ht
    exact ⟨a, k, R, by omega, h2⟩
  · obtain ⟨a, k, R, h1, h2, h3⟩ := A.up g s e
    refine ⟨a, k, R, by omega, fun q => by omega, fun q => ⟨u, ?_⟩⟩
    by_cases c : a + k < i
    · exact (h3 c).2
    · have z : a + k = i := by omega
      rw [z]
      exact hb
theorem at_new {i : Nat} {f : List (List Nat)} (hg : isGood lo hi l i = true) (u : upTo lo hi l i = 0) (cl : ∀ s ∈ f, ∃ a k, Run lo hi l s a k ∧ a + k < i + 1 ∧ isGood lo hi l (a + k) = false) : At lo hi l (i + 1) (f ++ [[i]]) := by
  have R : Run lo hi l [i] i 1 := ⟨rfl, Nat.le_refl _, fun j h1 h2 => by
    have e : j = i := by omega
    rw [e]
    exact hg, u⟩
  have u1 : upTo lo hi l (i + 1) = 1 := by
    show (if isGood lo hi l i = true then upTo lo hi l i + 1 else 0) = 1
    rw [if_pos hg, u]
  refine ⟨fun s hs => ?_, fun g s e t ht => ?_, fun e => by simp at e, fun g s e => ?_⟩
  · rcases List.mem_append.mp hs with q | q
    · obtain ⟨a, k, R', h1, h2⟩ := cl s q
      exact ⟨a, k, R', by omega, fun _ => h2⟩
    · simp at q
      subst q
      exact ⟨i, 1, R, by omega, fun q => by omega⟩
  · obtain ⟨e1, e2⟩ := snoc_inj e
    subst e1
    obtain ⟨a, k, R', h1, h2⟩ := cl t ht
    exact ⟨a, k, R', h1, h2⟩
  · obtain ⟨e1, e2⟩ := snoc_inj e
    subst e2
    exact ⟨i, 1, R, by omega, fun _ => u1, fun q => by omega⟩
theorem at_push {i : Nat} {f : List (List Nat)} (A : At lo hi l i f) (hg : isGood lo hi l i = true) : At lo hi l (i + 1) (push f i) := by
  have ne : ∀ s ∈ f, s ≠ [] := fun s hs q => by
    obtain ⟨a, k, R, _⟩ := A.runs s hs
    have e := R.eq
    rw [q] at e
    have z := congrArg List.length e
    simp at z
    have := R.pos
    omega
  rcases ne_cases ne with e | ⟨g, s, m, e⟩
  · subst e
    rw [push_nil]
    exact at_new (f := []) hg (A.up0 rfl) (by simp)
  · obtain ⟨a, k, R, h1, h2, h3⟩ := A.up g (s ++ [m]) e
    have hm := range'_last R.eq R.pos
    have cl := A.last g (s ++ [m]) e
    subst e
    by_cases c : m + 1 = i
    · rw [push_on c]
      have hk : a + k = i := by omega
      have u1 : upTo lo hi l (i + 1) = k + 1 := by
        show (if isGood lo hi l i = true then upTo lo hi l i + 1 else 0) = k + 1
        rw [if_pos hg, h2 hk]
      have R' : Run lo hi l (s ++ [m] ++ [i]) a (k + 1) := ⟨by rw [range'_snoc, ← R.eq, hk], by omega, fun j q1 q2 => by
        by_cases z : j < a + k
        · exact R.good j q1 z
        · have e : j = i := by omega
          rw [e]
          exact hg, R.ahead⟩
      refine ⟨fun t ht => ?_, fun g' t' e t ht => ?_, fun e => by simp at e, fun g' t' e => ?_⟩
      · rcases List.mem_append.mp ht with q | q
        · obtain ⟨a', k', R2, q1, q2⟩ := cl t q
          exact ⟨a', k', R2, by omega, fun _ => q2⟩
        · simp at q
          rw [q]
          have R'' := R'
          rw [List.append_assoc] at R''
          exact ⟨a, k + 1, R'', by omega, fun z => by omega⟩
      · obtain ⟨e1, e2⟩ := snoc_inj e
        subst e1
        obtain ⟨a', k', R2, q1, q2⟩ := cl t ht
        exact ⟨a', k', R2, by omega, q2⟩
      · obtain ⟨e1, e2⟩ := snoc_inj e
        subst e2
        exact ⟨a, k + 1, R', by omega, fun _ => u1, fun z => by omega⟩
    · rw [push_new c]
      have hk : a + k < i := by omega
      obtain ⟨u, nb⟩ := h3 hk
      refine at_new hg u fun t ht => ?_
      rcases List.mem_append.mp ht with q | q
      · obtain ⟨a', k', R2, q1, q2⟩ := cl t q
        exact ⟨a', k', R2, by omega, q2⟩
      · have q' : t = s ++ [m] := by simpa using q
        rw [q']
        exact ⟨a, k, R, by omega, nb⟩
theorem at_all : ∀ i : Nat, At lo hi l i (stre ((List.range i).filter (isGood lo hi l)))
  | 0 => ⟨by intro s hs; simp [stre] at hs, by intro g s e; simp [stre] at e, fun _ => rfl, by intro g s e; simp [stre] at e⟩
  | i + 1 => by
    have ih := at_all i
    rw [List.range_succ, List.filter_append]
    by_cases c : isGood lo hi l i = true
    · have e : ([i] : List Nat).filter (isGood lo hi l) = [i] := by simp [c]
      rw [e, stre_snoc]
      exact at_push ih c
    · have c' : isGood lo hi l i = false := by simpa using c
      have e : ([i] : List Nat).filter (isGood lo hi l) = [] := by simp [c']
      rw [e, List.append_nil]
      exact at_none ih c'
theorem bad_behind (hh : hi ≤ 1000) {i : Nat} (h : l.length ≤ i) : isGood lo hi l i = false := by
  unfold isGood
  have e : l.getD i 1001 = 1001 := by simp [List.getD, List.getElem?_eq_none h]
  rw [e]
  have : decide (1001 ≤ hi) = false := decide_eq_false (by omega)
  rw [this, Bool.and_false]
/-- every stretch of the good sections is a whole run -/
theorem stre_runs (hh : hi ≤ 1000) : ∀ s ∈ stre (goods lo hi l), ∃ a k, Run lo hi l s a k ∧ a + k ≤ l.length ∧ isGood lo hi l (a + k) = false := by
  intro s hs
  obtain ⟨a, k, R, h1, h2⟩ := (at_all (lo := lo) (hi := hi) (l := l) l.length).runs s hs
  refine ⟨a, k, R, h1, ?_⟩
  by_cases c : a + k < l.length
  · exact h2 c
  · exact bad_behind hh (by omega)
theorem upTo_in {a k : Nat} {s : List Nat} (R : Run lo hi l s a k) : ∀ t, t < k → upTo lo hi l (a + t) = t
  | 0, _ => R.ahead
  | t + 1, h => by
    have ih := upTo_in R t (by omega)
    show (if isGood lo hi l (a + t) = true then upTo lo hi l (a + t) + 1 else 0) = t + 1
    rw [if_pos (R.good (a + t) (by omega) (by omega)), ih]
theorem from_in : ∀ (k f a : Nat), k ≤ f → (∀ i, a ≤ i → i < a + k → isGood lo hi l i = true) → isGood lo hi l (a + k) = false → from_ lo hi l f a = k
  | 0, 0, _, _, _, _ => rfl
  | 0, f + 1, a, _, _, nb => by
    show (if isGood lo hi l a = true then _ else 0) = 0
    rw [show isGood lo hi l a = false from nb]
    rfl
  | k + 1, 0, _, h, _, _ => by omega
  | k + 1, f + 1, a, h, g, nb => by
    show (if isGood lo hi l a = true then from_ lo hi l f (a + 1) + 1 else 0) = k + 1
    rw [if_pos (g a (by omega) (by omega)), from_in k f (a + 1) (by omega) (fun i h1 h2 => g i (by omega) (by omega)) (by rw [show a + 1 + k = a + (k + 1) by omega]; exact nb)]
theorem runAt_in (hl : l.length ≤ 40) {a k : Nat} {s : List Nat} (R : Run lo hi l s a k) (he : a + k ≤ l.length) (nb : isGood lo hi l (a + k) = false) {i : Nat} (hi' : i ∈ s) : runAt lo hi l i = k ∧ a ≤ i ∧ i < a + k ∧ upTo lo hi l i = i - a := by
  rw [R.eq] at hi'
  have q := List.mem_range'_1.mp hi'
  obtain ⟨t, rfl⟩ : ∃ t, i = a + t := ⟨i - a, by omega⟩
  have u := upTo_in R t (by omega)
  refine ⟨?_, by omega, by omega, by omega⟩
  unfold runAt
  rw [u, from_in (k - t) most (a + t) (by unfold most; omega) (fun j h1 h2 => R.good j (by omega) (by omega)) (by rw [show a + t + (k - t) = a + k by omega]; exact nb)]
  omega
/-- the stretches that are long enough -/
def longs (lo hi p : Nat) (l : List Nat) : List (List Nat) := (stre (goods lo hi l)).filter fun s => decide (p ≤ s.length)
theorem run_len {a k : Nat} {s : List Nat} (R : Run lo hi l s a k) : s.length = k := by
  rw [R.eq]
  simp
theorem filter_flatten {α : Type} (q : α → Bool) : ∀ L : List (List α), L.flatten.filter q = (L.map (List.filter q)).flatten
  | [] => rfl
  | s :: L => by
    rw [List.flatten_cons, List.filter_append, filter_flatten q L]
    rfl
theorem flat_longs (p : Nat) (q : Nat → Bool) : ∀ L : List (List Nat), (∀ s ∈ L, ∀ i ∈ s, q i = decide (p ≤ s.length)) → (L.map (List.filter q)).flatten = (L.filter fun s => decide (p ≤ s.length)).flatten
  | [], _ => rfl
  | s :: L, h => by
    have ih := flat_longs p q L fun t ht => h t (List.mem_cons_of_mem _ ht)
    have hs := h s List.mem_cons_self
    rw [List.map_cons, List.flatten_cons, ih, List.filter_cons]
    by_cases c : p ≤ s.length
    · have e : s.filter q = s := List.filter_eq_self.mpr fun i hi => by rw [hs i hi]; exact decide_eq_true c
      rw [e, if_pos (decide_eq_true c)]
      rfl
    · have e : s.filter q = [] := List.filter_eq_nil_iff.mpr fun i hi => by rw [hs i hi, decide_eq_false c]; exact Bool.false_ne_true
      rw [e, if_neg (by rw [decide_eq_false c]; exact Bool.false_ne_true)]
      rfl
/-- **the usable sections are those of the long stretches** -/
theorem usable_eq (hh : hi ≤ 1000) (hl : l.length ≤ 40) (p : Nat) : usable lo hi p l = (longs lo hi p l).flatten := by
  have e1 : usable lo hi p l = (goods lo hi l).filter fun i => decide (p ≤ runAt lo hi l i) := by
    unfold usable goods
    rw [List.filter_filter]
    congr 1
    funext i
    exact Bool.and_comm _ _
  rw [e1, ← stre_flat (goods lo hi l), filter_flatten]
  unfold longs
  refine flat_longs p _ _ fun s hs i hi' => ?_
  obtain ⟨a, k, R, he, nb⟩ := stre_runs hh s hs
  rw [(runAt_in hl R he nb hi').1, run_len R]
theorem heads_of (hh : hi ≤ 1000) (hl : l.length ≤ 40) : ∀ L : List (List Nat), (∀ s ∈ L, s ∈ stre (goods lo hi l)) → (L.flatten.filter fun i => upTo lo hi l i == 0).map (runAt lo hi l) = L.map List.length
  | [], _ => rfl
  | s :: L, h => by
    have ih := heads_of hh hl L fun t ht => h t (List.mem_cons_of_mem _ ht)
    obtain ⟨a, k, R, he, nb⟩ := stre_runs hh s (h s List.mem_cons_self)
    rw [List.flatten_cons, List.filter_append, List.map_append, ih, List.map_cons]
    obtain ⟨k', rfl⟩ : ∃ k', k = k' + 1 := ⟨k - 1, by have := R.pos; omega⟩
    have e : s.filter (fun i => upTo lo hi l i == 0) = [a] := by
      have es : s = a :: List.range' (a + 1) k' := by rw [R.eq, List.range'_succ]
      have t0 : List.filter (fun i => upTo lo hi l i == 0) (List.range' (a + 1) k') = [] := List.filter_eq_nil_iff.mpr fun i hi' => by
        have hm : i ∈ s := by rw [es]; exact List.mem_cons_of_mem _ hi'
        have q := (runAt_in hl R he nb hm).2.2.2
        have r := List.mem_range'_1.mp hi'
        rw [q]
        simp
        omega
      rw [es, List.filter_cons, t0, R.ahead]
      rfl
    have hm : a ∈ s := by rw [R.eq]; simp
    rw [e, List.map_cons, (runAt_in hl R he nb hm).1, run_len R]
    rfl
/-- **the runs that the specification counts are the long stretches, length by length** -/
theorem begins_eq (hh : hi ≤ 1000) (hl : l.length ≤ 40) (p : Nat) : (begins lo hi p l).map (runAt lo hi l) = (longs lo hi p l).map List.length := by
  unfold begins
  rw [usable_eq hh hl]
  exact heads_of hh hl _ fun s hs => (List.mem_filter.mp hs).1
end

/-! ### the rolls -/
/-- can_cut -/
def can (p j n : Nat) (u : List Nat) (at_ : Nat) : Bool := decide (at_ + n ≤ u.length) && (decide ((stre ((u.drop at_).take n)).length ≤ j + 1) && (stre ((u.drop at_).take n)).all fun s => decide (p ≤ s.length))
/-- most_behind -/
def behind (n : Nat) : List Bool → List Nat
  | [] => [0]
  | b :: r => (if b = true then max ((behind n r).getD 0 0) (1 + (behind n r).getD (n - 1) 0) else (behind n r).getD 0 0) :: behind n r
def fits (p j n : Nat) (u : List Nat) : List Bool := (List.range u.length).map (can p j n u)
theorem behind_len (n : Nat) : ∀ l : List Bool, (behind n l).length = l.length + 1
  | [] => rfl
  | b :: r => by
    show ((behind n r).length + 1) = _
    rw [behind_len n r]
    rfl
theorem behind_drop (n : Nat) : ∀ (l : List Bool) (i : Nat), i ≤ l.length → (behind n l).drop i = behind n (l.drop i)
  | _, 0, _ => rfl
  | [], i + 1, h => by simp at h
  | b :: r, i + 1, h => by
    show (behind n r).drop i = behind n (r.drop i)
    exact behind_drop n r i (by simpa using h)
theorem cuts_len (p j n : Nat) : ∀ u : List Nat, (cuts p j n u).length = u.length + 1
  | [] => rfl
  | a :: u => by
    show ((cuts p j n u).length + 1) = _
    rw [cuts_len p j n u]
    rfl
theorem cuts_drop (p j n : Nat) : ∀ (u : List Nat) (i : Nat), i ≤ u.length → (cuts p j n u).drop i = cuts p j n (u.drop i)
  | _, 0, _ => rfl
  | [], i + 1, h => by simp at h
  | a :: u, i + 1, h => by
    show (cuts p j n u).drop i = cuts p j n (u.drop i)
    exact cuts_drop p j n u i (by simpa using h)
def best (p j n : Nat) (u : List Nat) : List Nat := (cuts p j n u).headD []
theorem getD_drop {α : Type} (d : α) : ∀ (l : List α) (i : Nat), l.getD i d = (l.drop i).headD d
  | [], i => by simp
  | x :: r, 0 => rfl
  | x :: r, i + 1 => by
    exact getD_drop d r i
theorem cuts_get {p j n : Nat} {u : List Nat} {i : Nat} (h : i ≤ u.length) : (cuts p j n u).getD i [] = best p j n (u.drop i) := by
  rw [getD_drop, cuts_drop p j n u i h]
  rfl
theorem can_roll {p j n : Nat} (u : List Nat) : can p j n u 0 = isRoll p j n (u.take n) := by
  unfold can isRoll
  have e1 : decide (0 + n ≤ u.length) = ((u.take n).length == n) := by
    rw [List.length_take]
    by_cases c : n ≤ u.length
    · rw [decide_eq_true (by omega), Nat.min_eq_left c]
      simp
    · rw [decide_eq_false (by omega), Nat.min_eq_right (by omega)]
      have : u.length ≠ n := by omega
      simp [this]
  have e2 : (stre ((u.drop 0).take n)).length = (pieces (u.take n)).length := by rw [← stre_pieces, List.length_map]; rfl
  have e3 : ((stre ((u.drop 0).take n)).all fun s => decide (p ≤ s.length)) = ((pieces (u.take n)).all fun x => decide (p ≤ x)) := by
    rw [← stre_pieces, List.all_map]
    rfl
  rw [e1, e2, e3, Bool.and_assoc]
theorem can_shift {p j n : Nat} (a : Nat) (u : List Nat) (i : Nat) : can p j n (a :: u) (i + 1) = can p j n u i := by
  unfold can
  have e : decide (i + 1 + n ≤ (a :: u).length) = decide (i + n ≤ u.length) := by
    rw [List.length_cons]
    congr 1
    apply propext
    omega
  rw [e]
  rfl
theorem fits_cons {p j n : Nat} (a : Nat) (u : List Nat) : fits p j n (a :: u) = isRoll p j n ((a :: u).take n) :: fits p j n u := by
  unfold fits
  rw [List.length_cons, List.range_succ_eq_map, List.map_cons, can_roll, List.map_map]
  congr 1
  refine List.map_congr_left fun i _ => ?_
  exact can_shift a u i
theorem isRoll_len {p j n : Nat} {s : List Nat} (h : isRoll p j n s = true) : s.length = n := by
  unfold isRoll at h
  simp only [Bool.and_eq_true] at h
  simpa using h.1.1
theorem roll_len {p j n : Nat} {u : List Nat} (h : isRoll p j n (u.take n) = true) : n ≤ u.length := by
  have e := isRoll_len h
  rw [List.length_take] at e
  omega
theorem best_cons {p j n : Nat} (hn : 1 ≤ n) (a : Nat) (u : List Nat) : best p j n (a :: u) =
    if isRoll p j n ((a :: u).take n) = true then (if (best p j n u).length ≤ (best p j n (u.drop (n - 1))).length + 1 then a :: best p j n (u.drop (n - 1)) else best p j n u) else best p j n u := by
  by_cases c : isRoll p j n ((a :: u).take n) = true
  · rw [if_pos c]
    have hl := roll_len c
    rw [List.length_cons] at hl
    have e : (cuts p j n u).getD (n - 1) [] = best p j n (u.drop (n - 1)) := cuts_get (by omega)
    show (match (if 1 ≤ n ∧ isRoll p j n ((a :: u).take n) = true then some (a :: (cuts p j n u).getD (n - 1) []) else none) with | some h => if ((cuts p j n u).headD []).length ≤ h.length then h else (cuts p j n u).headD [] | none => (cuts p j n u).headD []) = _
    rw [if_pos ⟨hn, c⟩, e]
    rfl
  · rw [if_neg c]
    show (match (if 1 ≤ n ∧ isRoll p j n ((a :: u).take n) = true then some (a :: (cuts p j n u).getD (n - 1) []) else none) with | some h => if ((cuts p j n u).headD []).length ≤ h.length then h else (cuts p j n u).headD [] | none => (cuts p j n u).headD []) = _
    rw [if_neg (fun z => c z.2)]
    rfl
theorem head_zero : ∀ l : List Nat, l.getD 0 0 = l.headD 0
  | [] => rfl
  | _ :: _ => rfl
/-- most_behind tells how many rolls the specification's best has, from each place on -/
theorem behind_fits {p j n : Nat} (hn : 1 ≤ n) : ∀ (u : List Nat), (behind n (fits p j n u)).getD 0 0 = (best p j n u).length
  | [] => rfl
  | a :: u => by
    have ih := behind_fits (p := p) (j := j) hn u
    rw [fits_cons, best_cons hn]
    show (if isRoll p j n ((a :: u).take n) = true then max ((behind n (fits p j n u)).getD 0 0) (1 + (behind n (fits p j n u)).getD (n - 1) 0) else (behind n (fits p j n u)).getD 0 0) = _
    rw [ih]
    by_cases c : isRoll p j n ((a :: u).take n) = true
    · rw [if_pos c, if_pos c]
      have hl := roll_len c
      rw [List.length_cons] at hl
      have fl : (fits p j n u).length = u.length := by unfold fits; simp
      have fd : ∀ (i : Nat) (v : List Nat), (fits p j n v).drop i = fits p j n (v.drop i) := by
        intro i
        induction i with
        | zero => intro v; rfl
        | succ i ihi =>
          intro v
          cases v with
          | nil => simp [fits]
          | cons b v =>
            rw [fits_cons]
            exact ihi v
      have e : (behind n (fits p j n u)).getD (n - 1) 0 = (best p j n (u.drop (n - 1))).length := by
        rw [getD_drop, behind_drop n _ _ (by omega), fd, ← head_zero]
        have hlt : (u.drop (n - 1)).length < u.length + 1 := by rw [List.length_drop]; omega
        exact behind_fits hn (u.drop (n - 1))
      rw [e]
      by_cases d : (best p j n u).length ≤ (best p j n (u.drop (n - 1))).length + 1
      · rw [if_pos d, List.length_cons]
        omega
      · rw [if_neg d]
        omega
    · rw [if_neg c, if_neg c]
termination_by u => u.length
decreasing_by
  all_goals simp_wf
  all_goals omega
theorem fits_len (p j n : Nat) (u : List Nat) : (fits p j n u).length = u.length := by unfold fits; simp
theorem fits_drop {p j n : Nat} : ∀ (i : Nat) (v : List Nat), (fits p j n v).drop i = fits p j n (v.drop i)
  | 0, _ => rfl
  | i + 1, [] => by simp [fits]
  | i + 1, b :: v => by
    rw [fits_cons]
    exact fits_drop i v
theorem behind_at {p j n : Nat} (hn : 1 ≤ n) (u : List Nat) (i : Nat) (h : i ≤ u.length) : (behind n (fits p j n u)).getD i 0 = (best p j n (u.drop i)).length := by
  rw [getD_drop, behind_drop n _ _ (by rw [fits_len]; exact h), fits_drop, ← head_zero, behind_fits hn]
theorem fits_at {p j n : Nat} {u : List Nat} {i : Nat} (h : i < u.length) : (fits p j n u)[i]? = some (can p j n u i) := by
  unfold fits
  rw [List.getElem?_map, List.getElem?_range h]
  rfl
theorem can_drop {p j n : Nat} : ∀ (i : Nat) (u : List Nat), can p j n u i = can p j n (u.drop i) 0 ∨ u.length < i
  | 0, _ => .inl rfl
  | i + 1, [] => .inr (by simp)
  | i + 1, a :: u => by
    rcases can_drop i u with e | e
    · left
      rw [can_shift]
      exact e
    · right
      rw [List.length_cons]
      omega
theorem can_room {p j n : Nat} {u : List Nat} {i : Nat} (h : can p j n u i = true) : i + n ≤ u.length := by
  unfold can at h
  simp only [Bool.and_eq_true, decide_eq_true_eq] at h
  exact h.1
/-- one turn of first_of_most: the roll is taken -/
theorem best_take {p j n : Nat} (hn : 1 ≤ n) {u : List Nat} {i a : Nat} (ha : u[i]? = some a) (hc : can p j n u i = true) (he : 1 + (best p j n (u.drop (i + n))).length = (best p j n (u.drop i)).length) :
    best p j n (u.drop i) = a :: best p j n (u.drop (i + n)) := by
  obtain ⟨hi, ea⟩ := List.getElem?_eq_some_iff.mp ha
  have ed : u.drop i = a :: u.drop (i + 1) := by rw [List.drop_eq_getElem_cons hi, ea]
  have hr : isRoll p j n ((u.drop i).take n) = true := by
    rw [← can_roll]
    rcases can_drop (p := p) (j := j) (n := n) i u with e | e
    · rw [← e]
      exact hc
    · omega
  have e2 : (u.drop (i + 1)).drop (n - 1) = u.drop (i + n) := by rw [List.drop_drop]; congr 1; omega
  rw [ed] at hr he ⊢
  rw [best_cons hn, if_pos hr, e2] at he ⊢
  by_cases d : (best p j n (u.drop (i + 1))).length ≤ (best p j n (u.drop (i + n))).length + 1
  · rw [if_pos d]
  · rw [if_neg d] at he
    omega
/-- .. it isn't -/
theorem best_skip {p j n : Nat} (hn : 1 ≤ n) {u : List Nat} {i a : Nat} (ha : u[i]? = some a) (hc : ¬ (can p j n u i = true ∧ 1 + (best p j n (u.drop (i + n))).length = (best p j n (u.drop i)).length)) :
    best p j n (u.drop i) = best p j n (u.drop (i + 1)) := by
  obtain ⟨hi, ea⟩ := List.getElem?_eq_some_iff.mp ha
  have ed : u.drop i = a :: u.drop (i + 1) := by rw [List.drop_eq_getElem_cons hi, ea]
  have hr : can p j n u i = isRoll p j n ((u.drop i).take n) := by
    rw [← can_roll]
    rcases can_drop (p := p) (j := j) (n := n) i u with e | e
    · exact e
    · omega
  have e2 : (u.drop (i + 1)).drop (n - 1) = u.drop (i + n) := by rw [List.drop_drop]; congr 1; omega
  rw [hr, ed] at hc
  rw [ed]
  rw [best_cons hn, e2] at hc ⊢
  by_cases c : isRoll p j n ((a :: u.drop (i + 1)).take n) = true
  · rw [if_pos c] at hc ⊢
    by_cases d : (best p j n (u.drop (i + 1))).length ≤ (best p j n (u.drop (i + n))).length + 1
    · rw [if_pos d, List.length_cons] at hc
      exact absurd ⟨c, by omega⟩ hc
    · rw [if_neg d]
  · rw [if_neg c]

/-! ### what is due -/
def due (a : Kza1.Ans) : List Int := a.value :: a.nums.map fun (x : Nat) => (x : Int)
theorem due_good (lo hi : Int) (ns : List Int) : PyKza4.good lo hi ns = due (Kza4.answer (.good lo.toNat hi.toNat (ns.map Int.toNat))) := rfl
theorem due_spread (ns : List Int) : PyKza4.spread ns = due (Kza4.answer (.spread (ns.map Int.toNat))) := rfl
theorem due_runs (lo hi p : Int) (ns : List Int) : PyKza4.runs lo hi p ns = due (Kza4.answer (.runs lo.toNat hi.toNat p.toNat (ns.map Int.toNat))) := rfl
theorem due_rolls (lo hi p j n : Int) (ns : List Int) : PyKza4.rolls lo hi p j n ns = due (Kza4.answer (.rolls lo.toNat hi.toNat p.toNat j.toNat n.toNat (ns.map Int.toNat))) := rfl
theorem fold_add : ∀ (l : List Nat) (s : Nat), ((l.foldl (· + ·) s : Nat) : Int) = (s : Int) + (l.map fun (n : Nat) => (n : Int)).sum
  | [], s => by simp
  | x :: l, s => by
    rw [List.foldl_cons, fold_add l (s + x), List.map_cons, List.sum_cons]
    omega
theorem sum_nat (l : List Nat) : (l.map fun (n : Nat) => (n : Int)).sum = ((Kza1.sum l : Nat) : Int) := by
  have e := fold_add l 0
  unfold Kza1.sum
  omega
theorem fold_min : ∀ (l : List Nat) (x : Nat), (l.foldl min x ≤ x ∧ ∀ y ∈ l, l.foldl min x ≤ y) ∧ (l.foldl min x = x ∨ l.foldl min x ∈ l)
  | [], x => by simp
  | a :: l, x => by
    obtain ⟨⟨h1, h2⟩, h3⟩ := fold_min l (min x a)
    rw [List.foldl_cons]
    refine ⟨⟨by omega, fun y hy => ?_⟩, ?_⟩
    · rcases List.mem_cons.mp hy with e | e
      · rw [e]; omega
      · exact h2 y e
    · rcases h3 with e | e
      · rw [e]
        by_cases c : x ≤ a
        · left; omega
        · right
          rw [show min x a = a by omega]
          exact List.mem_cons_self
      · right; exact List.mem_cons_of_mem _ e
theorem fold_max : ∀ (l : List Nat) (x : Nat), (x ≤ l.foldl max x ∧ ∀ y ∈ l, y ≤ l.foldl max x) ∧ (l.foldl max x = x ∨ l.foldl max x ∈ l)
  | [], x => by simp
  | a :: l, x => by
    obtain ⟨⟨h1, h2⟩, h3⟩ := fold_max l (max x a)
    rw [List.foldl_cons]
    refine ⟨⟨by omega, fun y hy => ?_⟩, ?_⟩
    · rcases List.mem_cons.mp hy with e | e
      · rw [e]; omega
      · exact h2 y e
    · rcases h3 with e | e
      · rw [e]
        by_cases c : a ≤ x
        · left; omega
        · right
          rw [show max x a = a by omega]
          exact List.mem_cons_self
      · right; exact List.mem_cons_of_mem _ e
theorem least_is {l : List Nat} {m : Int} (hb : ∀ y ∈ l, y ≤ 1000) (hm : m ∈ l.map fun (n : Nat) => (n : Int)) (h : ∀ y, y ∈ (l.map fun (n : Nat) => (n : Int)) → m ≤ y) : m = ((least l : Nat) : Int) := by
  obtain ⟨k, hk, rfl⟩ := List.mem_map.mp hm
  obtain ⟨⟨h1, h2⟩, h3⟩ := fold_min l 1000
  have a := h2 k hk
  have b := hb k hk
  show (k : Int) = ((l.foldl min 1000 : Nat) : Int)
  rcases h3 with e | e
  · omega
  · have c := h _ (List.mem_map.mpr ⟨_, e, rfl⟩)
    omega
/-- the greatest, 0 without any -/
theorem top_is {l : List Nat} {m : Int} (hm : m ∈ (0 : Int) :: l.map fun (n : Nat) => (n : Int)) (h : ∀ y, y ∈ (l.map fun (n : Nat) => (n : Int)) → y ≤ m) (h0 : 0 ≤ m) : m = ((top l : Nat) : Int) := by
  obtain ⟨⟨h1, h2⟩, h3⟩ := fold_max l 0
  show m = ((l.foldl max 0 : Nat) : Int)
  rcases List.mem_cons.mp hm with e | e
  · rcases h3 with q | q
    · omega
    · have c := h _ (List.mem_map.mpr ⟨_, q, rfl⟩)
      omega
  · obtain ⟨k, hk, rfl⟩ := List.mem_map.mp e
    have a := h2 k hk
    rcases h3 with q | q
    · omega
    · have c := h _ (List.mem_map.mpr ⟨_, q, rfl⟩)
      omega
theorem okWeb_iff {l : List Nat} : okWeb l = true ↔ 1 ≤ l.length ∧ l.length ≤ 40 ∧ ∀ x ∈ l, x ≤ 1000 := by
  unfold okWeb most
  simp [and_assoc]
theorem spread_bad {l : List Nat} (h : okWeb l = false) : due (answer (.spread l)) = [-22] := by
  show due (if okWeb l = false then Kza1.say (-22) else _) = _
  rw [if_pos h]
  rfl
theorem spread_good {l : List Nat} (h : okWeb l = true) : due (answer (.spread l)) = [((Kza1.sum l / l.length : Nat) : Int), ((least l : Nat) : Int), ((top l : Nat) : Int)] := by
  show due (if okWeb l = false then Kza1.say (-22) else _) = _
  rw [if_neg (by rw [h]; exact Bool.noConfusion)]
  rfl
theorem mean_is {l : List Nat} (h : 1 ≤ l.length) : Int.fdiv ((l.map fun (n : Nat) => (n : Int)).sum) (l.length : Int) = ((Kza1.sum l / l.length : Nat) : Int) := by
  rw [sum_nat, Int.fdiv_eq_ediv_of_nonneg _ (by omega)]
  rfl
theorem nats_map {ns : List Int} (h : ∀ x ∈ ns, 0 ≤ x) : ns = (ns.map Int.toNat).map fun (n : Nat) => (n : Int) := by
  induction ns with
  | nil => rfl
  | cons x r ih =>
    rw [List.map_cons, List.map_cons, ← ih fun y hy => h y (List.mem_cons_of_mem _ hy)]
    have := h x List.mem_cons_self
    congr 1
    omega
theorem fold_bits : ∀ (l : List Nat) (s : Nat), ((l.foldl (fun n k => n + 2 ^ k) s : Nat) : Int) = (s : Int) + (l.map fun (m : Nat) => ((1 : Int) * 2 ^ (m : Int).toNat)).sum
  | [], s => by simp
  | x :: l, s => by
    have e : (((2 ^ x : Nat)) : Int) = (1 : Int) * 2 ^ (x : Int).toNat := by simp
    rw [List.foldl_cons, fold_bits l (s + 2 ^ x), List.map_cons, List.sum_cons, ← e]
    omega
theorem bits_is (l : List Nat) : (l.map fun (m : Nat) => ((1 : Int) * 2 ^ (m : Int).toNat)).sum = ((bits l : Nat) : Int) := by
  have e := fold_bits l 0
  unfold bits
  omega
theorem good_bad {lo hi : Nat} {l : List Nat} (h : okWeb l = false ∨ okLimits lo hi = false) : due (answer (.good lo hi l)) = [-22] := by
  show due (if okWeb l = false ∨ okLimits lo hi = false then Kza1.say (-22) else _) = _
  rw [if_pos h]
  rfl
theorem good_ok {lo hi : Nat} {l : List Nat} (h : okWeb l = true) (h2 : okLimits lo hi = true) : due (answer (.good lo hi l)) = [((goods lo hi l).length : Int), ((bits (goods lo hi l) : Nat) : Int)] := by
  show due (if okWeb l = false ∨ okLimits lo hi = false then Kza1.say (-22) else _) = _
  rw [if_neg (by rw [h, h2]; simp)]
  rfl
theorem nat_of {z : Int} (h : 0 ≤ z) : ((z.toNat : Nat) : Int) = z := by omega
theorem okCut_eq (lo hi p j n : Nat) : okCut lo hi p j n = (okLimits lo hi && ((decide (1 ≤ p) && decide (p ≤ 20)) && (decide (j ≤ 5) && (decide (1 ≤ n) && decide (n ≤ 40))))) := by
  unfold okCut most
  simp only [Bool.and_assoc]
theorem okLimits_hi {lo hi : Nat} (h : okLimits lo hi = true) : hi ≤ 1000 := by
  unfold okLimits at h
  simp at h
  exact h.2
theorem runs_bad {lo hi p : Nat} {l : List Nat} (h : okWeb l = false ∨ okLimits lo hi = false ∨ (decide (1 ≤ p) && decide (p ≤ 20)) = false) : due (answer (.runs lo hi p l)) = [-22] := by
  show due (if okWeb l = false ∨ okCut lo hi p 0 1 = false then Kza1.say (-22) else _) = _
  rw [if_pos ?_]
  · rfl
  · rcases h with h | h | h
    · exact .inl h
    · right
      rw [okCut_eq, h]
      rfl
    · right
      rw [okCut_eq, h, Bool.false_and, Bool.and_false]
theorem fold_sum : ∀ (l : List Nat) (s : Nat), l.foldl (· + ·) s = s + l.sum
  | [], s => by simp
  | x :: l, s => by
    rw [List.foldl_cons, fold_sum l, List.sum_cons]
    omega
theorem sum_eq (l : List Nat) : Kza1.sum l = l.sum := by
  unfold Kza1.sum
  rw [fold_sum]
  omega
theorem runs_ok {lo hi p : Nat} {l : List Nat} (hw : okWeb l = true) (hL : okLimits lo hi = true) (hU : (decide (1 ≤ p) && decide (p ≤ 20)) = true) :
    due (answer (.runs lo hi p l)) = [((((longs lo hi p l).map List.length).length : Nat) : Int), ((top ((longs lo hi p l).map List.length) : Nat) : Int), ((Kza1.sum ((longs lo hi p l).map List.length) : Nat) : Int)] := by
  show due (if okWeb l = false ∨ okCut lo hi p 0 1 = false then Kza1.say (-22) else _) = _
  have hc : okCut lo hi p 0 1 = true := by
    rw [okCut_eq, hL, hU]
    rfl
  rw [if_neg (by rw [hw, hc]; simp)]
  obtain ⟨h1, h2, h3⟩ := okWeb_iff.mp hw
  have hh := okLimits_hi hL
  have e := begins_eq (lo := lo) hh h2 p
  have e2 : (begins lo hi p l).length = ((longs lo hi p l).map List.length).length := by rw [← e, List.length_map]
  have e3 : (usable lo hi p l).length = Kza1.sum ((longs lo hi p l).map List.length) := by rw [usable_eq hh h2, List.length_flatten, sum_eq]
  show [(((begins lo hi p l).length : Nat) : Int), ((top ((begins lo hi p l).map (runAt lo hi l)) : Nat) : Int), (((usable lo hi p l).length : Nat) : Int)] = _
  rw [e, e2, e3]
theorem rolls_bad {lo hi p j n : Nat} {l : List Nat} (h : okWeb l = false ∨ okLimits lo hi = false ∨ (decide (1 ≤ p) && decide (p ≤ 20)) = false ∨ (decide (j ≤ 5) && (decide (1 ≤ n) && decide (n ≤ 40))) = false) :
    due (answer (.rolls lo hi p j n l)) = [-22] := by
  show due (if okWeb l = false ∨ okCut lo hi p j n = false then Kza1.say (-22) else _) = _
  rw [if_pos ?_]
  · rfl
  · rcases h with h | h | h | h
    · exact .inl h
    · right
      rw [okCut_eq, h]
      rfl
    · right
      rw [okCut_eq, h, Bool.false_and, Bool.and_false]
    · right
      rw [okCut_eq, h, Bool.and_false, Bool.and_false]
theorem rolls_ok {lo hi p j n : Nat} {l : List Nat} (hw : okWeb l = true) (hL : okLimits lo hi = true) (hU : (decide (1 ≤ p) && decide (p ≤ 20)) = true) (hO : (decide (j ≤ 5) && (decide (1 ≤ n) && decide (n ≤ 40))) = true) :
    due (answer (.rolls lo hi p j n l)) = ((best p j n (longs lo hi p l).flatten).length : Int) :: (best p j n (longs lo hi p l).flatten).map fun (x : Nat) => (x : Int) := by
  show due (if okWeb l = false ∨ okCut lo hi p j n = false then Kza1.say (-22) else _) = _
  have hc : okCut lo hi p j n = true := by
    rw [okCut_eq, hL, hU, hO]
    rfl
  rw [if_neg (by rw [hw, hc]; simp)]
  obtain ⟨h1, h2, h3⟩ := okWeb_iff.mp hw
  rw [← usable_eq (okLimits_hi hL) h2]
  rfl
theorem one_of {j n : Nat} (hO : (decide (j ≤ 5) && (decide (1 ≤ n) && decide (n ≤ 40))) = true) : 1 ≤ n := by
  simp at hO
  exact hO.2.1
theorem sum_filter_le (q : List Nat → Bool) : ∀ L : List (List Nat), (L.filter q).flatten.length ≤ L.flatten.length
  | [] => Nat.le_refl _
  | s :: L => by
    have ih := sum_filter_le q L
    rw [List.filter_cons]
    by_cases c : q s = true
    · rw [if_pos c]
      simp only [List.flatten_cons, List.length_append]
      omega
    · rw [if_neg c]
      simp only [List.flatten_cons, List.length_append]
      omega
theorem longs_flat_len (lo hi p : Nat) (l : List Nat) : (longs lo hi p l).flatten.length ≤ l.length := by
  unfold longs
  refine Nat.le_trans (sum_filter_le _ _) ?_
  rw [stre_flat]
  unfold goods
  refine Nat.le_trans (List.length_filter_le _ _) ?_
  rw [List.length_range]
  exact Nat.le_refl _
theorem flat_more {f : List (List Nat)} {i : Nat} {s : List Nat} (h : f[i]? = some s) : (f.take (i + 1)).flatten = (f.take i).flatten ++ s := by
  obtain ⟨hi, e⟩ := List.getElem?_eq_some_iff.mp h
  rw [List.take_succ_eq_append_getElem hi, e, List.flatten_append]
  simp
theorem flat_take_len (f : List (List Nat)) (i : Nat) : (f.take i).flatten.length ≤ f.flatten.length := by
  have e : f.flatten = (f.take i).flatten ++ (f.drop i).flatten := by rw [← List.flatten_append, List.take_append_drop]
  rw [e, List.length_append]
  omega
end Web
namespace Web
open PySem PySem.Spec PyProof.Rows L2
open PySem.W (Codec)
abbrev vN (n : Nat) : V := V.int (n : Int)
def stm (i : Nat) : Stmt := PySem.Challenge.pw_paperweb_s04_rolls.main.body.getD i (.Pass ⟨0, 0, 0, 0⟩)
abbrev sInit : Stmt := inClass (stm 2) 0
abbrev sRef : Stmt := stm 3
abbrev sLookWeb : Stmt := stm 10
abbrev sLookLimits : Stmt := stm 11
abbrev sLookRun : Stmt := stm 12
abbrev sLookRoll : Stmt := stm 13
abbrev sGood : Stmt := stm 14
abbrev sStre : Stmt := stm 15
abbrev sLong : Stmt := stm 16
abbrev sCan : Stmt := stm 18
abbrev sBehind : Stmt := stm 19
abbrev sFirst : Stmt := stm 20
abbrev sBegins : Stmt := stm 21
abbrev sMain : Stmt := stm 23
/-- the error's own fields -/
abbrev fN : List (Str × V) := [(("number" : Str), V.int (-22))]
structure Txt (K : PySem.W.Frag) (mg : Str → Option Value) (C fI : Addr) : Prop where
  gC : mg "Refused" = some (.ref C)
  ox : OexC K C
  xf : XfC K C
  nN : PySem.W.findIn K (.ref C) "number" = some none
  te : PySem.W.exmOne K (.ref C) (.ref C) = some true
  iC : PySem.W.findIn K (.ref C) "__init__" = some (some (.ref fI))
  tI : PySem.W.typeIn K (.ref fI) = some (.type "function")
  gV : mg "ValueError" = none
  vV : PySem.W.findCls K (.type "ValueError") (.type "type") "__init__" = some (.val (.builtin "ValueError.__init__"))
  gN : ∃ t, mg "NOT_SO" = some (.int (-22) t)
  gS : ∃ t, mg "MOST_SECTIONS" = some (.int (40) t)
  gM : ∃ t, mg "MOST_MEASURED" = some (.int (1000) t)
  gU : ∃ t, mg "MOST_RUN" = some (.int (20) t)
  gJ : ∃ t, mg "MOST_JOINS" = some (.int (5) t)
  gL : ∃ t, mg "MOST_ROLL" = some (.int (40) t)
  len : mg "len" = none
  any : mg "any" = none
  all : mg "all" = none
  max : mg "max" = none
  range : mg "range" = none
  enumerate : mg "enumerate" = none
theorem sameNew {H : Hp} {p : Addr} {o : HO} (h : H p = none) : Same H (upd H p o) := fun b u e => by
  rw [upd_ne (ne_of_none e h)]
  exact e
theorem sameOn {H H' : Hp} {p : Addr} {o : HO} (s : Same H H') (h : H p = none) : Same H (upd H' p o) := fun b u e => by
  rw [upd_ne (ne_of_none e h)]
  exact s b u e
theorem get_map {α β : Type} {f : α → β} {l : List α} {i : Nat} {y : β} (h : (l.map f)[i]? = some y) : ∃ x, l[i]? = some x ∧ y = f x := by
  rw [List.getElem?_map] at h
  cases e : l[i]? with
  | none => rw [e] at h; cases h
  | some z => rw [e] at h; exact ⟨z, rfl, (Option.some.inj h).symm⟩
theorem take_more {α : Type} {l : List α} {i : Nat} {x : α} (h : l[i]? = some x) : l.take (i + 1) = l.take i ++ [x] := by
  obtain ⟨hi, e⟩ := List.getElem?_eq_some_iff.mp h
  rw [List.take_succ_eq_append_getElem hi, e]
theorem line_of {n : Nat} (h : n ≤ 1000) : n < sizeLine := small1000 h
theorem if_true_of {c : Bool} {A B : Prop} (hc : c = true) (h : A) : if c = true then A else B := by
  rw [if_pos hc]
  exact h
theorem if_false_of {c : Bool} {A B : Prop} (hc : c = false) (h : B) : if c = true then A else B := by
  rw [hc, if_neg Bool.false_ne_true]
  exact h
theorem tyes {σ : L2.St} {H : Hp} {A B : Hp → Prop} (h : A H) : tYes σ H fun b H3 => if b = true then A H3 else B H3 := by
  show if true = true then A H else B H
  rw [if_pos rfl]
  exact h
theorem map_vN (l : List Nat) : l.map vN = (l.map fun (n : Nat) => (n : Int)).map V.int := by
  rw [List.map_map]
  rfl
theorem vN_of {z : Int} (h : 0 ≤ z) : V.int z = vN z.toNat := by
  show V.int z = V.int ((z.toNat : Nat) : Int)
  rw [nat_of h]
/-- len(xs), xs[i] within a comprehension: their readings named ahead of its own frame -/
def rLen (K : PySem.W.Frag) : List V → Hp → VK → Prop := fun xs H Q => ∃ p ys, xs = [.ref p] ∧ (SqL K H p ys ∨ SqT K H p ys) ∧ Q (.int ys.length) H
theorem len_in {X : Cx} {K : PySem.W.Frag} (e : X.K = K) : CallR X (.builtin "len") (rLen K) := by
  subst e
  exact call_len_seq
theorem ix_in {X : Cx} {K : PySem.W.Frag} (e : X.K = K) : IxR X (rIxL K) := by
  subst e
  exact ix_list
/-- the def of that name keeps its promise -/
def Has (P : Program) (w : World) (K : PySem.W.Frag) (mg : Str → Option Value) (base : Heap) (CX : CXT) (k : Nat) (name : Str) (ps : List Str) (sp : Sp) : Prop :=
  ∃ (f : Addr) (fd : FuncData), FnOk P w K mg base CX k f fd ps sp ∧ Binds K fd ps [] ∧ mg name = some (.ref f) ∧ PySem.W.keepIn K (.ref f) = true
section
variable {P : Program} {w : World} {K : PySem.W.Frag} {mg : Str → Option Value} {base : Heap} {C fI : Addr}
/-! ### Refused.__init__ -/
def spInit (C : Addr) : Sp := fun vs H Q _ => ∃ (a : Addr) (v : V), vs = [.ref a, v] ∧ H a = some (exo a C none) ∧
  ∀ dx, H dx = none → dx ≠ a → Q .non (upd (upd H dx (exd dx [(("number" : Str), v)])) a (exo a C (some dx)))
theorem scI : FnScope ["self", "number"] ["self", "number"] (defScope sInit) := ⟨rfl, rfl, rfl, by decide +kernel, rfl, by decide +kernel, by decide +kernel⟩
theorem ok_init {fd : FuncData} (F : Fun K "__init__" "Refused.__init__" sInit fI fd) (T : Txt K mg C fI) : FnOk P w K mg base CX0 1 fI fd ["self", "number"] (spInit C) := by
  refine F.ok scI (fun vs H Q E h => ?_) (fun cdv A outer s H vs Q E hr h => ?_)
  · obtain ⟨a, v, rfl, _⟩ := h
    rfl
  · refine ⟨_, pss_cons (ps_expr (pe_veinit rfl T.gV T.vV (pa_cons (pv 0) (pa_cons pe_str pa_nil)))) (pss_one (ps_ost (pv 0) (pv 1))), ?_⟩
    obtain ⟨a, v, rfl, ha, k⟩ := h
    refine ⟨_, rfl, a, C, _, rfl, (by show 1 ≤ 1000; decide), T.ox, ha, ?_⟩
    exact ⟨_, rfl, _, rfl, a, C, rfl, T.ox, T.nN, .inl ⟨ha, fun dx n ne => k dx n ne⟩⟩
/-! ### refuse_where -/
def spRef (C : Addr) : Sp := fun vs H Q E => ∃ b : Bool, vs = [.bl b] ∧ (b = true → ∀ d : Addr, H d = none → E (.ref C) (some d) (upd H d (.xd fN))) ∧ (b = false → Q .non H)
theorem scR : FnScope ["fact"] ["fact"] (defScope sRef) := ⟨rfl, rfl, rfl, by decide +kernel, rfl, by decide +kernel, by decide +kernel⟩
theorem upd_made {H : Hp} {a d : Addr} {o1 o2 o3 o4 : HO} (ha : H a = none) (hd : d ≠ a) : upd (del (upd (upd (upd H a o1) d o2) a o3) a) d o4 = upd H d o4 := by
  funext b
  by_cases hb : b = d
  · subst hb
    rw [upd_same, upd_same]
  · rw [upd_ne hb, upd_ne hb]
    by_cases hba : b = a
    · subst hba
      rw [del_same, ha]
    · rw [del_ne hba, upd_ne hba, upd_ne hb, upd_ne hba]
theorem ok_ref {f : Addr} {fd fdI : FuncData} (F : Fun K "refuse_where" "refuse_where" sRef f fd) (T : Txt K mg C fI) (FI : Fun K "__init__" "Refused.__init__" sInit fI fdI) (bI : Binds K fdI ["self", "number"] []) :
    FnOk P w K mg base (L2.CX P w) 3 f fd ["fact"] (spRef C) := by
  have GI : FnOk P w K mg base CX0 1 fI fdI ["self", "number"] (spInit C) := ok_init FI T
  obtain ⟨tN, gN⟩ := T.gN
  refine F.okX scR (fun vs H Q E h => ?_) (fun cdv A outer s H vs Q E hr h => ?_)
  · obtain ⟨b, rfl, _⟩ := h
    rfl
  · refine ⟨_, pss_one (ps_if (pt_val (pv 0)) (pss_one (ps_raise rfl (takes_of (E := E) rfl rfl rfl rfl) (pmk_oex T.ox T.iC T.tI GI hr bI .nil pass0 rfl T.gC (pa_cons (pe_glob (v := V.int (-22)) rfl gN ⟨_, rfl⟩) pa_nil)))) pss_nil), ?_⟩
    obtain ⟨b, rfl, kE, kQ⟩ := h
    refine ⟨_, rfl, b, rfl, ?_⟩
    cases b with
    | false => exact iteF (kQ rfl)
    | true =>
      refine iteT ⟨(by show 1 ≤ 1000; decide), fun a ha => ?_⟩
      refine ⟨a, _, rfl, upd_same, fun dx nd ne => ⟨rfl, dx, fN, upd_same, ?_, ?_, ?_⟩⟩
      · rw [upd_ne ne, upd_same]
      · rw [upd_ne ne] at nd
        exact nd
      · rw [upd_made ha ne]
        rw [upd_ne ne] at nd
        exact kE rfl dx nd
/-! ### look_web -/
def spLookWeb (K : PySem.W.Frag) (C : Addr) : Sp := fun vs H Q E => ∃ (a : Addr) (l : List Nat), vs = [.ref a] ∧ SqL K H a (l.map vN) ∧ l.length ≤ 44 ∧
  (Kza4.okWeb l = true → ∀ H', Same H H' → Q .non H') ∧ (Kza4.okWeb l = false → ∀ H' d, Same H H' → H' d = some (.xd fN) → E (.ref C) (some d) H')
theorem scW : FnScope ["sections", "measured"] ["sections"] (defScope sLookWeb) := ⟨rfl, rfl, rfl, by decide +kernel, rfl, by decide +kernel, by decide +kernel⟩
theorem any_big (l : List Nat) : (l.map fun (m : Nat) => decide ((1000 : Int) < (m : Int))).any id = !(l.all fun x => decide (x ≤ 1000)) := by
  induction l with
  | nil => rfl
  | cons x l ih =>
    rw [List.map_cons, List.any_cons, ih, List.all_cons, Bool.not_and]
    congr 1
    by_cases c : x ≤ 1000
    · rw [decide_eq_true c]
      exact decide_eq_false (by omega)
    · rw [decide_eq_false c]
      exact decide_eq_true (by omega)
theorem ok_lookWeb {f : Addr} {fd : FuncData} (F : Fun K "look_web" "look_web" sLookWeb f fd) (T : Txt K mg C fI) (hR : Has P w K mg base (L2.CX P w) 3 "refuse_where" ["fact"] (spRef C)) :
    FnOk P w K mg base (L2.CX P w) 4 f fd ["sections"] (spLookWeb K C) := by
  obtain ⟨fR, fdR, GR, bR, gR, kR⟩ := hR
  obtain ⟨tS, gS⟩ := T.gS
  obtain ⟨tM, gM⟩ := T.gM
  refine F.okX scW (fun vs H Q E h => ?_) (fun cdv A outer s H vs Q E hr h => ?_)
  · obtain ⟨a, l, rfl, _⟩ := h
    rfl
  · refine ⟨_, pss_cons (ps_expr (pe_callS (E := WE fun cls d _ H => E cls d H) GR hr rfl gR kR bR (fun σ => passAt (takes_of (E := E) rfl rfl rfl rfl) σ)
        (pa_cons (pe_not (pe_chain op_le op_le pe_int (pe_callB call_len_seq (by rfl) T.len PySem.boot_len (pa_cons (pv 0) pa_nil)) (pe_glob (v := V.int 40) rfl gS ⟨_, rfl⟩))) pa_nil)))
      (pss_one (ps_expr (pe_callS (E := WE fun cls d _ H => E cls d H) GR hr rfl gR kR bR (fun σ => passAt (takes_of (E := E) rfl rfl rfl rfl) σ)
        (pa_cons (pe_callB (cr_any rfl) (by rfl) T.any (by decide +kernel) (pa_cons
          (pe_lc (own := [("measured", 1)]) (g := gName 1) (tt := tYes) rfl scW.nd (pi_list (pv 0)) (blkOk_by (own := [("measured", 1)]) (N := ["sections", "measured"]) (sc := defScope sLookWeb) (by decide +kernel))
            (fun _ _ _ _ _ => pg_name (i := 1) scW.nd rfl (Or.inl rfl)) (fun _ _ _ _ _ => pts_nil) (fun _ _ _ _ _ => pe_cmpR op_gt (pv 1) (pe_glob (v := V.int 1000) rfl gM ⟨_, rfl⟩) (nomark _))) pa_nil)) pa_nil)))), ?_⟩
    obtain ⟨a, l, rfl, hS, hl, kQ, kE⟩ := h
    have bad : Kza4.okWeb l = false → ∀ H1 : Hp, Same H H1 → ∀ d, H1 d = none → E (.ref C) (some d) (upd H1 d (.xd fN)) := fun hw H1 s1 d hd => kE hw _ d (s1.trans (sameNew hd)) upd_same
    have e0 : Kza4.okWeb l = (decide (1 ≤ l.length) && decide (l.length ≤ 40) && l.all fun x => decide (x ≤ 1000)) := rfl
    refine ⟨_, rfl, a, _, rfl, .inl hS, _, _, rfl, rfl, _, rfl, ?_⟩
    rw [List.length_map]
    by_cases c1 : 1 ≤ l.length
    · refine if_true_of (decide_eq_true (by omega)) ⟨_, _, rfl, rfl, _, rfl, ?_⟩
      refine ⟨_, rfl, fun hb => ?_, fun hb => ?_⟩
      · refine bad ?_ _ (Same.refl _)
        have : ¬ ((l.length : Int) ≤ 40) := by simpa using hb
        rw [e0, decide_eq_false (show ¬ l.length ≤ 40 by omega), Bool.and_false, Bool.false_and]
      · have c2 : ((l.length : Int) ≤ 40) := by simpa using hb
        have e1 : Kza4.okWeb l = l.all fun x => decide (x ≤ 1000) := by
          rw [e0, decide_eq_true c1, decide_eq_true (show l.length ≤ 40 by omega)]
          rfl
        refine ⟨_, rfl, a, rfl, ⟨_, hS⟩, fun D hD => lc_list (K := K) (a := a) (xs := l.map vN) (fun i H' => Same H H' ∧ H' D = some (.lst (((l.take i).map fun (m : Nat) => decide ((1000 : Int) < (m : Int))).map V.bl))) ⟨sameNew hD, upd_same⟩ (fun i H' _ z => z.1.seq hS) ?_ ?_⟩
        · rintro i x H' hx ⟨s1, h1⟩
          obtain ⟨m, hm, rfl⟩ := get_map hx
          refine ⟨rfl, tyes ⟨_, rfl, _, _, rfl, rfl, _, h1, line_of ?_, sameOn s1 hD, ?_⟩⟩
          · rw [List.length_map, List.length_map, List.length_take]
            omega
          · rw [upd_same, take_more hm, List.map_append, List.map_append]
            rfl
        · rintro H' ⟨s1, h1⟩
          rw [List.length_map, List.take_length] at h1
          refine ⟨D, _, rfl, SqL.of h1, ?_⟩
          rw [any_big]
          refine ⟨_, rfl, fun hb => ?_, fun hb => ?_⟩
          · refine bad ?_ _ s1
            rw [e1]
            simpa using hb
          · refine kQ ?_ _ s1
            rw [e1]
            simpa using hb
    · refine if_false_of (decide_eq_false (by omega)) ⟨_, rfl, ?_⟩
      refine ⟨true, rfl, fun _ => bad ?_ _ (Same.refl _), fun z => by cases z⟩
      rw [e0, decide_eq_false c1, Bool.false_and, Bool.false_and]
/-! ### look_limits -/
/-- what a look does: it goes on as it was, or refuses -/
def Look (C : Addr) (ok : Bool) (H : Hp) (Q : VK) (E : XK) : Prop := (ok = true → Q .non H) ∧ (ok = false → ∀ d : Addr, H d = none → E (.ref C) (some d) (upd H d (.xd fN)))
theorem Look.not {C : Addr} {ok b : Bool} {H : Hp} {Q : VK} {E : XK} (h : Look C ok H Q E) (e : b = !ok) : ∃ b' : Bool, [V.bl b] = [V.bl b'] ∧ (b' = true → ∀ d : Addr, H d = none → E (.ref C) (some d) (upd H d (.xd fN))) ∧ (b' = false → Q .non H) := by
  refine ⟨b, rfl, fun hb => h.2 ?_, fun hb => h.1 ?_⟩
  · rw [e] at hb
    simpa using hb
  · rw [e] at hb
    simpa using hb
def spLookLimits (C : Addr) : Sp := fun vs H Q E => ∃ lo hi : Nat, vs = [vN lo, vN hi] ∧ Look C (Kza4.okLimits lo hi) H Q E
theorem scL : FnScope ["low", "high"] ["low", "high"] (defScope sLookLimits) := ⟨rfl, rfl, rfl, by decide +kernel, rfl, by decide +kernel, by decide +kernel⟩
theorem ok_lookLimits {f : Addr} {fd : FuncData} (F : Fun K "look_limits" "look_limits" sLookLimits f fd) (T : Txt K mg C fI) (hR : Has P w K mg base (L2.CX P w) 3 "refuse_where" ["fact"] (spRef C)) :
    FnOk P w K mg base (L2.CX P w) 4 f fd ["low", "high"] (spLookLimits C) := by
  obtain ⟨fR, fdR, GR, bR, gR, kR⟩ := hR
  obtain ⟨tM, gM⟩ := T.gM
  refine F.okX scL (fun vs H Q E h => ?_) (fun cdv A outer s H vs Q E hr h => ?_)
  · obtain ⟨lo, hi, rfl, _⟩ := h
    rfl
  · refine ⟨_, pss_one (ps_expr (pe_callS (E := WE fun cls d _ H => E cls d H) GR hr rfl gR kR bR (fun σ => passAt (takes_of (E := E) rfl rfl rfl rfl) σ)
        (pa_cons (pe_or (pe_cmpR op_gt (pv 0) (pv 1) (nomark _)) (pe_one (pe_cmpR op_gt (pv 1) (pe_glob (v := V.int 1000) rfl gM ⟨_, rfl⟩) (nomark _)))) pa_nil))), ?_⟩
    obtain ⟨lo, hi, rfl, hk⟩ := h
    have e0 : Kza4.okLimits lo hi = (decide (lo ≤ hi) && decide (hi ≤ 1000)) := rfl
    refine ⟨_, rfl, _, rfl, _, _, rfl, rfl, _, rfl, ?_⟩
    by_cases c : lo ≤ hi
    · refine if_false_of (decide_eq_false (by omega)) ⟨_, rfl, _, _, rfl, rfl, ?_⟩
      refine hk.not ?_
      rw [e0, decide_eq_true c, Bool.true_and]
      by_cases c2 : hi ≤ 1000
      · rw [decide_eq_true c2]
        exact decide_eq_false (by omega)
      · rw [decide_eq_false c2]
        exact decide_eq_true (by omega)
    · refine if_true_of (decide_eq_true (by omega)) ?_
      refine hk.not ?_
      rw [e0, decide_eq_false c]
      rfl
/-! ### look_run -/
def spLookRun (C : Addr) : Sp := fun vs H Q E => ∃ p : Nat, vs = [vN p] ∧ Look C (decide (1 ≤ p) && decide (p ≤ 20)) H Q E
theorem scU : FnScope ["least"] ["least"] (defScope sLookRun) := ⟨rfl, rfl, rfl, by decide +kernel, rfl, by decide +kernel, by decide +kernel⟩
theorem ok_lookRun {f : Addr} {fd : FuncData} (F : Fun K "look_run" "look_run" sLookRun f fd) (T : Txt K mg C fI) (hR : Has P w K mg base (L2.CX P w) 3 "refuse_where" ["fact"] (spRef C)) :
    FnOk P w K mg base (L2.CX P w) 4 f fd ["least"] (spLookRun C) := by
  obtain ⟨fR, fdR, GR, bR, gR, kR⟩ := hR
  obtain ⟨tU, gU⟩ := T.gU
  refine F.okX scU (fun vs H Q E h => ?_) (fun cdv A outer s H vs Q E hr h => ?_)
  · obtain ⟨p, rfl, _⟩ := h
    rfl
  · refine ⟨_, pss_one (ps_expr (pe_callS (E := WE fun cls d _ H => E cls d H) GR hr rfl gR kR bR (fun σ => passAt (takes_of (E := E) rfl rfl rfl rfl) σ)
        (pa_cons (pe_not (pe_chain op_le op_le pe_int (pv 0) (pe_glob (v := V.int 20) rfl gU ⟨_, rfl⟩))) pa_nil))), ?_⟩
    obtain ⟨p, rfl, hk⟩ := h
    refine ⟨_, rfl, _, _, rfl, rfl, _, rfl, ?_⟩
    by_cases c : 1 ≤ p
    · refine if_true_of (decide_eq_true (by omega)) ⟨_, _, rfl, rfl, _, rfl, ?_⟩
      refine hk.not ?_
      rw [decide_eq_true c, Bool.true_and]
      congr 1
      by_cases c2 : p ≤ 20
      · rw [decide_eq_true c2]
        exact decide_eq_true (by omega)
      · rw [decide_eq_false c2]
        exact decide_eq_false (by omega)
    · refine if_false_of (decide_eq_false (by omega)) ⟨_, rfl, ?_⟩
      refine hk.not ?_
      rw [decide_eq_false c]
      rfl
/-! ### look_roll -/
def spLookRoll (C : Addr) : Sp := fun vs H Q E => ∃ j n : Nat, vs = [vN j, vN n] ∧ Look C (decide (j ≤ 5) && (decide (1 ≤ n) && decide (n ≤ 40))) H Q E
theorem scO : FnScope ["joins", "length"] ["joins", "length"] (defScope sLookRoll) := ⟨rfl, rfl, rfl, by decide +kernel, rfl, by decide +kernel, by decide +kernel⟩
theorem ok_lookRoll {f : Addr} {fd : FuncData} (F : Fun K "look_roll" "look_roll" sLookRoll f fd) (T : Txt K mg C fI) (hR : Has P w K mg base (L2.CX P w) 3 "refuse_where" ["fact"] (spRef C)) :
    FnOk P w K mg base (L2.CX P w) 4 f fd ["joins", "length"] (spLookRoll C) := by
  obtain ⟨fR, fdR, GR, bR, gR, kR⟩ := hR
  obtain ⟨tJ, gJ⟩ := T.gJ
  obtain ⟨tL, gL⟩ := T.gL
  refine F.okX scO (fun vs H Q E h => ?_) (fun cdv A outer s H vs Q E hr h => ?_)
  · obtain ⟨j, n, rfl, _⟩ := h
    rfl
  · refine ⟨_, pss_one (ps_expr (pe_callS (E := WE fun cls d _ H => E cls d H) GR hr rfl gR kR bR (fun σ => passAt (takes_of (E := E) rfl rfl rfl rfl) σ)
        (pa_cons (pe_or (pe_cmpR op_gt (pv 0) (pe_glob (v := V.int 5) rfl gJ ⟨_, rfl⟩) (nomark _)) (pe_one (pe_not (pe_chain op_le op_le pe_int (pv 1) (pe_glob (v := V.int 40) rfl gL ⟨_, rfl⟩))))) pa_nil))), ?_⟩
    obtain ⟨j, n, rfl, hk⟩ := h
    refine ⟨_, rfl, _, _, rfl, rfl, _, rfl, ?_⟩
    by_cases c0 : j ≤ 5
    · refine if_false_of (decide_eq_false (by omega)) ⟨_, rfl, _, _, rfl, rfl, _, rfl, ?_⟩
      rw [decide_eq_true c0, Bool.true_and] at hk
      by_cases c : 1 ≤ n
      · refine if_true_of (decide_eq_true (by omega)) ⟨_, _, rfl, rfl, _, rfl, ?_⟩
        refine hk.not ?_
        rw [decide_eq_true c, Bool.true_and]
        congr 1
        by_cases c2 : n ≤ 40
        · rw [decide_eq_true c2]
          exact decide_eq_true (by omega)
        · rw [decide_eq_false c2]
          exact decide_eq_false (by omega)
      · refine if_false_of (decide_eq_false (by omega)) ⟨_, rfl, ?_⟩
        refine hk.not ?_
        rw [decide_eq_false c]
        rfl
    · refine if_true_of (decide_eq_true (by omega)) ?_
      refine hk.not ?_
      rw [decide_eq_false c0]
      rfl
/-! ### good_sections -/
def spGood (K : PySem.W.Frag) : Sp := fun vs H Q _ => ∃ (lo hi : Nat) (a : Addr) (l : List Nat), vs = [vN lo, vN hi, .ref a] ∧ SqL K H a (l.map vN) ∧ l.length ≤ 44 ∧
  ∀ H' D, Same H H' → H D = none → H' D = some (.lst ((goods lo hi l).map vN)) → Q (.ref D) H'
theorem scG : FnScope ["low", "high", "sections", "number", "measured"] ["low", "high", "sections"] (defScope sGood) := ⟨rfl, rfl, rfl, by decide +kernel, rfl, by decide +kernel, by decide +kernel⟩
theorem good_at {lo hi : Nat} {l : List Nat} {i m : Nat} (h : l[i]? = some m) : Kza4.isGood lo hi l i = (decide (lo ≤ m) && decide (m ≤ hi)) := by
  unfold Kza4.isGood
  have e : l.getD i 1001 = m := by rw [List.getD, h]; rfl
  rw [e]
theorem goods_len (lo hi : Nat) (l : List Nat) : (goods lo hi l).length ≤ l.length := by
  unfold goods
  refine Nat.le_trans (List.length_filter_le _ _) ?_
  rw [List.length_range]
  exact Nat.le_refl _
theorem ok_goodS {f : Addr} {fd : FuncData} (F : Fun K "good_sections" "good_sections" sGood f fd) (T : Txt K mg C fI) : FnOk P w K mg base CX0 1 f fd ["low", "high", "sections"] (spGood K) := by
  refine F.ok scG (fun vs H Q E h => ?_) (fun cdv A outer s H vs Q E hr h => ?_)
  · obtain ⟨lo, hi, a, l, rfl, _⟩ := h
    rfl
  · refine ⟨_, pss_one (ps_ret (pe_lc (own := [("number", 3), ("measured", 4)]) (g := gTup K 2 (gCons (gName 3) (gCons (gName 4) gNil))) rfl scG.nd (pi_enum (by rfl) T.enumerate (pa_cons (pv 2) pa_nil))
        (blkOk_by (own := [("number", 3), ("measured", 4)]) (N := ["low", "high", "sections", "number", "measured"]) (sc := defScope sGood) (by decide +kernel))
        (fun _ _ _ _ _ => pg_tup rfl (pgs_cons (pg_name (i := 3) scG.nd rfl (Or.inl rfl)) (pgs_cons (pg_name (i := 4) scG.nd rfl (Or.inl rfl)) pgs_nil)))
        (fun _ _ _ _ _ => pts_one (pt_chain op_le op_le (pv 0) (pv 4) (pv 1))) (fun _ _ _ _ _ => pv 3))), ?_⟩
    obtain ⟨lo, hi, a, l, rfl, hS, hl, k⟩ := h
    refine ⟨_, rfl, a, _, rfl, hS, fun D hD => lc_it (walk_enum (K := K) (a := a) (xs := l.map vN)) (fun i H' => Same H H' ∧ H' D = some (.lst (((List.range i).filter (Kza4.isGood lo hi l)).map vN))) ⟨sameNew hD, upd_same⟩ (fun i H' _ z => z.1.seq hS) ?_ ?_⟩
    · rintro i x H1 H2 hlt ⟨s1, h1⟩ ⟨T0, x0, y0, rfl, hT, rfl, hx, hy⟩
      obtain ⟨m, hm, rfl⟩ := get_map hy
      cases hx
      have hDT : D ≠ T0 := fun z => by
        rw [z, hT] at h1
        cases h1
      have s2 : Same H (upd H1 T0 (.tup [.int (i : Nat), vN m])) := s1.trans (sameNew hT)
      have h2 : (upd H1 T0 (.tup [.int (i : Nat), vN m])) D = some (.lst (((List.range i).filter (Kza4.isGood lo hi l)).map vN)) := by
        rw [upd_ne hDT]
        exact h1
      have hg := good_at (lo := lo) (hi := hi) hm
      rw [List.length_map] at hlt
      have more : ∀ b, Kza4.isGood lo hi l i = b → (List.range (i + 1)).filter (Kza4.isGood lo hi l) = (List.range i).filter (Kza4.isGood lo hi l) ++ (if b = true then [i] else []) := fun b hb => by
        rw [List.range_succ, List.filter_append]
        cases b with
        | true => simp [hb]
        | false => simp [hb]
      refine ⟨T0, _, rfl, SqT.of upd_same, rfl, _, _, rfl, _, _, rfl, rfl, rfl, ?_⟩
      refine ⟨_, rfl, _, rfl, _, _, rfl, rfl, _, rfl, ?_⟩
      have no : Kza4.isGood lo hi l i = false → Same H (upd H1 T0 (.tup [.int (i : Nat), vN m])) ∧ (upd H1 T0 (.tup [.int (i : Nat), vN m])) D = some (.lst (((List.range (i + 1)).filter (Kza4.isGood lo hi l)).map vN)) := fun hb => by
        refine ⟨s2, ?_⟩
        rw [more false hb, if_neg Bool.false_ne_true, List.append_nil]
        exact h2
      by_cases c : lo ≤ m
      · refine if_true_of (decide_eq_true (by omega)) ⟨_, rfl, _, _, rfl, rfl, _, rfl, ?_⟩
        by_cases c2 : m ≤ hi
        · refine if_true_of (decide_eq_true (by omega)) ⟨_, rfl, _, h2, line_of ?_, sameOn s2 hD, ?_⟩
          · rw [List.length_map]
            refine Nat.le_trans (List.length_filter_le _ _) ?_
            rw [List.length_range]
            omega
          · rw [upd_same, more true (by rw [hg, decide_eq_true c, decide_eq_true c2]; rfl), if_pos rfl, List.map_append]
            rfl
        · refine if_false_of (decide_eq_false (by omega)) (no ?_)
          rw [hg, decide_eq_false c2, Bool.and_false]
      · refine if_false_of (decide_eq_false (by omega)) ⟨_, rfl, ?_⟩
        refine if_false_of rfl (no ?_)
        rw [hg, decide_eq_false c, Bool.false_and]
    · rintro H' ⟨s1, h1⟩
      rw [List.length_map] at h1
      exact k H' D s1 hD h1
/-! ### stretches -/
/-- at each of these places a list of numbers -/
inductive Rows (H : Hp) : List Addr → List (List Nat) → Prop
  | nil : Rows H [] []
  | cons {p : Addr} {ps : List Addr} {s : List Nat} {f : List (List Nat)} : H p = some (.lst (s.map vN)) → Rows H ps f → Rows H (p :: ps) (s :: f)
theorem Rows.same {H H' : Hp} (e : Same H H') : ∀ {ps : List Addr} {f : List (List Nat)}, Rows H ps f → Rows H' ps f
  | _, _, .nil => .nil
  | _, _, .cons h r => .cons (e _ _ h) (Rows.same e r)
theorem Rows.upd {H : Hp} {a : Addr} {o : HO} : ∀ {ps : List Addr} {f : List (List Nat)}, Rows H ps f → a ∉ ps → Rows (upd H a o) ps f
  | _, _, .nil, _ => .nil
  | _, _, .cons (p := p) h r, n => .cons (by rw [upd_ne (fun z => n (by rw [z]; exact List.mem_cons_self))]; exact h) (Rows.upd r fun z => n (List.mem_cons_of_mem _ z))
theorem Rows.snoc {H : Hp} {q : Addr} {s : List Nat} (h : H q = some (.lst (s.map vN))) : ∀ {ps : List Addr} {f : List (List Nat)}, Rows H ps f → Rows H (ps ++ [q]) (f ++ [s])
  | _, _, .nil => .cons h .nil
  | _, _, .cons h1 r => .cons h1 (Rows.snoc h r)
theorem Rows.unsnoc {H : Hp} {s : List Nat} : ∀ {g : List (List Nat)} {ps : List Addr}, Rows H ps (g ++ [s]) → ∃ qs q, ps = qs ++ [q] ∧ Rows H qs g ∧ H q = some (.lst (s.map vN))
  | [], ps, r => by
    cases r with
    | cons h r =>
      cases r
      exact ⟨[], _, rfl, .nil, h⟩
  | x :: g, ps, r => by
    cases r with
    | cons h r =>
      obtain ⟨qs, q, rfl, r', h'⟩ := Rows.unsnoc r
      exact ⟨_ :: qs, q, rfl, .cons h r', h'⟩
theorem Rows.len {H : Hp} : ∀ {ps : List Addr} {f : List (List Nat)}, Rows H ps f → ps.length = f.length
  | _, _, .nil => rfl
  | _, _, .cons _ r => by rw [List.length_cons, List.length_cons, Rows.len r]
theorem Rows.at {H : Hp} : ∀ {ps : List Addr} {f : List (List Nat)} {i : Nat} {p : Addr}, Rows H ps f → ps[i]? = some p → ∃ s, f[i]? = some s ∧ H p = some (.lst (s.map vN))
  | _, _, 0, _, .cons (s := s) h _, e => by
    cases Option.some.inj e
    exact ⟨s, rfl, h⟩
  | _, _, i + 1, p, .cons _ r, e => Rows.at (i := i) r e
  | _, _, _, _, .nil, e => by simp at e
theorem Rows.there {H : Hp} {p : Addr} : ∀ {ps : List Addr} {f : List (List Nat)}, Rows H ps f → p ∈ ps → ∃ o, H p = some o
  | _, _, .cons h r, m => by
    rcases List.mem_cons.mp m with e | e
    · rw [e]
      exact ⟨_, h⟩
    · exact Rows.there r e
/-- the rows as data -/
def rowD (s : List Nat) : PyData := .list (s.map fun (n : Nat) => PyData.int (n : Int))
theorem dp_ints {H : Hp} : ∀ s : List Nat, DpAll K H (s.map vN) (s.map fun (n : Nat) => PyData.int (n : Int))
  | [] => .nil
  | n :: s => .cons (.int n) (dp_ints s)
theorem Rows.dp {H : Hp} : ∀ {ps : List Addr} {f : List (List Nat)}, Rows H ps f → DpAll K H (ps.map V.ref) (f.map rowD)
  | _, _, .nil => .nil
  | _, _, .cons h r => .cons (.lst (SqL.of h) (dp_ints _)) (Rows.dp r)
theorem lay_ints : ∀ s : List Nat, PyData.canLayAll0 (s.map fun (n : Nat) => PyData.int (n : Int)) = true
  | [] => by simp [PyData.canLayAll0]
  | n :: s => by simp [PyData.canLayAll0, PyData.canLay0, lay_ints s]
theorem lay_rows : ∀ f : List (List Nat), PyData.canLayAll0 (f.map rowD) = true
  | [] => by simp [PyData.canLayAll0]
  | s :: f => by simp [PyData.canLayAll0, PyData.canLay0, rowD, lay_ints s, lay_rows f]
theorem deep_ints : ∀ s : List Nat, PyData.depthAll (s.map fun (n : Nat) => PyData.int (n : Int)) = 0
  | [] => by simp [PyData.depthAll]
  | n :: s => by simp [PyData.depthAll, PyData.depth, deep_ints s]
theorem deep_rows : ∀ f : List (List Nat), PyData.depthAll (f.map rowD) ≤ 1
  | [] => by simp [PyData.depthAll]
  | s :: f => by
    have := deep_rows f
    simp only [List.map_cons, PyData.depthAll, rowD, PyData.depth, deep_ints s]
    omega
theorem shaped_rows (f : List (List Nat)) : SeqAt.shaped (.list (f.map rowD)) = true := by
  unfold SeqAt.shaped
  have a : PyData.canLay0 (.list (f.map rowD)) = true := by
    simp only [PyData.canLay0]
    exact lay_rows f
  have b : PyData.depth (.list (f.map rowD)) ≤ 64 := by
    have := deep_rows f
    simp only [PyData.depth]
    omega
  rw [a, decide_eq_true b]
  rfl
theorem eqv_nil : ∀ f : List (List Nat), PyData.eqv (.list (f.map rowD)) (.list []) = f.isEmpty
  | [] => by simp [PyData.eqv, PyData.eqvAll]
  | s :: f => by simp [PyData.eqv, PyData.eqvAll]
/-- what stretches leaves behind: F a list of the rows at ps, all new -/
structure Made (H H' : Hp) (F : Addr) (ps : List Addr) (f : List (List Nat)) : Prop where
  same : Same H H'
  nF : H F = none
  nps : ∀ p ∈ ps, H p = none
  out : F ∉ ps
  lst : H' F = some (.lst (ps.map V.ref))
  rows : Rows H' ps f
theorem Made.new {H H2 : Hp} {F r : Addr} {ps : List Addr} {f : List (List Nat)} {n : Nat} (M : Made H H2 F ps f) (nd : ps.Nodup) (nr : H2 r = none) :
    Made H (upd (upd H2 r (.lst [vN n])) F (.lst (ps.map V.ref ++ [V.ref r]))) F (ps ++ [r]) (f ++ [[n]]) ∧ (ps ++ [r]).Nodup := by
  have hrF : r ≠ F := fun z => by
    have q := M.lst
    rw [← z, nr] at q
    cases q
  have hrp : r ∉ ps := fun z => by
    obtain ⟨o, q⟩ := M.rows.there z
    rw [nr] at q
    cases q
  have s1 : Same H2 (upd H2 r (.lst [vN n])) := sameNew nr
  refine ⟨⟨?_, M.nF, fun p hp => ?_, fun z => ?_, ?_, ?_⟩, ?_⟩
  · exact sameOn (M.same.trans s1) M.nF
  · rcases List.mem_append.mp hp with z | z
    · exact M.nps p z
    · have z' : p = r := by simpa using z
      rw [z']
      exact M.same.free nr
  · rcases List.mem_append.mp z with z | z
    · exact M.out z
    · have z' : F = r := by simpa using z
      exact hrF z'.symm
  · rw [upd_same, List.map_append]
    rfl
  · refine Rows.snoc ?_ ((M.rows.same s1).upd M.out)
    rw [upd_ne hrF, upd_same]
    rfl
  · refine List.nodup_append.mpr ⟨nd, by simp, fun x hx y hy z => ?_⟩
    have hy' : y = r := by simpa using hy
    rw [← hy', ← z] at hrp
    exact hrp hx
theorem Made.on {H H2 : Hp} {F q : Addr} {qs : List Addr} {g : List (List Nat)} {t : List Nat} {n : Nat} (M : Made H H2 F (qs ++ [q]) (g ++ [t])) (nd : (qs ++ [q]).Nodup) :
    Made H (upd H2 q (.lst (t.map vN ++ [vN n]))) F (qs ++ [q]) (g ++ [t ++ [n]]) := by
  have hqF : F ≠ q := fun z => M.out (by rw [z]; simp)
  have hq : q ∉ qs := fun z => (List.nodup_append.mp nd).2.2 q z q (by simp) rfl
  obtain ⟨qs', q', e, r, h⟩ := Rows.unsnoc M.rows
  obtain ⟨e1, e2⟩ := snoc_inj e
  subst e1 e2
  refine ⟨sameOn M.same (M.nps q (by simp)), M.nF, M.nps, M.out, ?_, ?_⟩
  · rw [upd_ne hqF]
    exact M.lst
  · refine Rows.snoc ?_ (r.upd hq)
    rw [upd_same, List.map_append]
    rfl
def spStre (K : PySem.W.Frag) : Sp := fun vs H Q _ => ∃ (a : Addr) (l : List Nat), vs = [.ref a] ∧ SqL K H a (l.map vN) ∧ l.length ≤ 44 ∧
  ∀ H' F ps, Made H H' F ps (stre l) → Q (.ref F) H'
theorem scS : FnScope ["numbers", "found", "number"] ["numbers"] (defScope sStre) := ⟨rfl, rfl, rfl, by decide +kernel, rfl, by decide +kernel, by decide +kernel⟩
theorem ok_stre {f : Addr} {fd : FuncData} (F : Fun K "stretches" "stretches" sStre f fd) (T : Txt K mg C fI) : FnOk P w K mg base CX0 1 f fd ["numbers"] (spStre K) := by
  refine F.ok scS (fun vs H Q E h => ?_) (fun cdv A outer s H vs Q E hr h => ?_)
  · obtain ⟨a, l, rfl, _⟩ := h
    rfl
  · refine ⟨_, pss_cons (ps_set (i := 1) scS.nd rfl (Or.inl rfl) (pe_lst pa_nil))
      (pss_cons (ps_for PassesOwn.never rfl (pi_list (pv 0)) (pg_name (i := 2) scS.nd rfl (Or.inl rfl))
        (pss_one (ps_if (PW.pt (pw_and (pt_cmpR (op_neD hr.units) (pv 1) (pe_lst pa_nil) (nomark _))
            (pw_and1 (pt_cmpR op_eq (pe_ix ix_list (pe_ix ix_list (pv 1) (pe_un un_neg pe_int) (fun _ _ => rfl)) (pe_un un_neg pe_int) (fun _ _ => rfl)) (pe_op op_sub (pv 2) pe_int) (nomark _)))))
          (pss_one (ps_expr (pe_bm PySem.F.plainAttrs_list PySem.F.slot_list_append PySem.F.type_list_append mt_append (pe_ix ix_list (pv 1) (pe_un un_neg pe_int) (fun _ _ => rfl)) (pa_cons (pv 2) pa_nil))))
          (pss_one (ps_expr (pe_bm PySem.F.plainAttrs_list PySem.F.slot_list_append PySem.F.type_list_append mt_append (pv 1) (pa_cons (pe_lst (pa_cons (pv 2) pa_nil)) pa_nil)))))))
      (pss_one (ps_ret (pv 1)))), ?_⟩
    obtain ⟨a, l, rfl, hS, hl, k⟩ := h
    refine ⟨(by show 0 ≤ sizeLine; decide), fun F nF => ?_⟩
    refine ⟨_, rfl, a, rfl, ⟨_, (sameNew nF).seq hS⟩, for_list (K := K) (a := a) (xs := l.map vN) (fun i σ H' => ∃ (v : Option V) (ps : List Addr), σ = [some (.ref a), some (.ref F), v] ∧ ps.Nodup ∧ Made H H' F ps (stre (l.take i)))
      ⟨none, [], rfl, List.nodup_nil, sameNew nF, nF, by simp, by simp, upd_same, .nil⟩ (fun i σ H' _ ⟨_, _, _, _, M⟩ => M.same.seq hS) ?_ ?_⟩
    · rintro i x σ H1 hx ⟨v, ps, rfl, nd, M⟩
      obtain ⟨n, hn, rfl⟩ := get_map hx
      have hlen : (stre (l.take i)).length ≤ 44 := Nat.le_trans (stre_len _) (by rw [List.length_take]; omega)
      have hps : ps.length ≤ 44 := by rw [M.rows.len]; exact hlen
      have more : stre (l.take (i + 1)) = push (stre (l.take i)) n := by rw [take_more hn, stre_snoc]
      -- the empty list that is compared with
      refine ⟨_, rfl, (by show 0 ≤ sizeLine; decide), fun q nq => ?_⟩
      have s2 : Same H1 (upd H1 q (.lst [])) := sameNew nq
      have M2 : Made H (upd H1 q (.lst [])) F ps (stre (l.take i)) := ⟨M.same.trans s2, M.nF, M.nps, M.out, s2 _ _ M.lst, M.rows.same s2⟩
      have hq : (upd H1 q (.lst []) : Hp) q = some (.lst []) := upd_same
      generalize upd H1 q (.lst []) = H2 at M2 hq
      refine ⟨.list ((stre (l.take i)).map rowD), .list [], .lst (SqL.of M2.lst) M2.rows.dp, .lst (SqL.of hq) .nil, shaped_rows _, shaped_rows [], _, rfl, ?_⟩
      rw [eqv_nil]
      have hne := stre_ne (l.take i)
      rcases ne_cases hne with e | ⟨g, t, m, e⟩
      · -- nothing found as yet
        rw [e] at M2 more ⊢
        refine if_false_of rfl (if_false_of rfl ?_)
        refine ⟨_, rfl, .inl ⟨rfl, _, SqL.of M2.lst⟩, _, rfl, (by show 1 ≤ sizeLine; decide), fun r nr => ?_⟩
        obtain ⟨M3, nd3⟩ := M2.new (n := n) nd nr
        refine ⟨F, ps.map V.ref, _, rfl, rfl, ?_, ?_, some (vN n), ps ++ [r], rfl, nd3, ?_⟩
        · rw [upd_ne (fun z => by rw [← z, M2.lst] at nr; cases nr)]
          exact M2.lst
        · rw [List.length_map]
          exact line_of (by omega)
        · rw [more, push_nil]
          exact M3
      · rw [e] at M2 more ⊢
        have em : (g ++ [t ++ [m]]).isEmpty = false := by simp
        rw [em]
        refine if_true_of rfl ?_
        obtain ⟨qs, q0, rfl, r0, h0⟩ := Rows.unsnoc M2.rows
        have hF : H2 F = some (.lst (qs.map V.ref ++ [V.ref q0])) := by
          have z := M2.lst
          rw [List.map_append] at z
          exact z
        have h0' : H2 q0 = some (.lst (t.map vN ++ [vN m])) := by
          rw [List.map_append] at h0
          exact h0
        refine ⟨_, rfl, _, rfl, F, _, _, V.ref q0, rfl, rfl, SqL.of hF, atI_last _ _, _, rfl, q0, _, _, vN m, rfl, rfl, SqL.of h0', atI_last _ _, _, rfl, _, _, rfl, rfl, rfl, _, rfl, ?_⟩
        by_cases c : m + 1 = n
        · refine if_true_of (decide_eq_true (by show V.int (m : Int) = V.int ((n : Int) - 1); congr 1; omega)) ?_
          refine ⟨_, rfl, _, rfl, F, _, _, V.ref q0, rfl, rfl, SqL.of hF, atI_last _ _, .inl ⟨rfl, _, SqL.of h0⟩, _, rfl, q0, _, _, rfl, rfl, h0, ?_, some (vN n), qs ++ [q0], rfl, nd, ?_⟩
          · rw [List.length_map]
            refine line_of ?_
            have z := mem_len (l := l.take i) (s := t ++ [m]) (by rw [e]; simp)
            rw [List.length_take] at z
            omega
          · rw [more, push_on c]
            exact M2.on nd
        · refine if_false_of (decide_eq_false (fun z => c ?_)) ?_
          · have z' : (m : Int) = (n : Int) - 1 := V.int.inj z
            omega
          refine ⟨_, rfl, .inl ⟨rfl, _, SqL.of M2.lst⟩, _, rfl, (by show 1 ≤ sizeLine; decide), fun r nr => ?_⟩
          obtain ⟨M3, nd3⟩ := M2.new (n := n) nd nr
          refine ⟨F, (qs ++ [q0]).map V.ref, _, rfl, rfl, ?_, ?_, some (vN n), qs ++ [q0] ++ [r], rfl, nd3, ?_⟩
          · rw [upd_ne (fun z => by rw [← z, M2.lst] at nr; cases nr)]
            exact M2.lst
          · rw [List.length_map]
            exact line_of (by omega)
          · rw [more, push_new c]
            exact M3
    · rintro σ H' ⟨v, ps, rfl, nd, M⟩
      rw [List.length_map, List.take_length] at M
      exact ⟨_, rfl, k H' F ps M⟩
/-! ### long_stretches -/
def spLong (K : PySem.W.Frag) : Sp := fun vs H Q _ => ∃ (lo hi p : Nat) (a : Addr) (l : List Nat), vs = [vN lo, vN hi, vN p, .ref a] ∧ SqL K H a (l.map vN) ∧ l.length ≤ 44 ∧
  ∀ H' F ps, Made H H' F ps (longs lo hi p l) → Q (.ref F) H'
theorem scLo : FnScope ["low", "high", "least", "sections", "some", "stretch"] ["low", "high", "least", "sections"] (defScope sLong) := ⟨rfl, rfl, rfl, by decide +kernel, rfl, by decide +kernel, by decide +kernel⟩
theorem filter_more {α : Type} {q : α → Bool} {f : List α} {i : Nat} {s : α} (h : f[i]? = some s) : (f.take (i + 1)).filter q = (f.take i).filter q ++ (if q s = true then [s] else []) := by
  rw [take_more h, List.filter_append]
  congr 1
  by_cases c : q s = true
  · rw [if_pos c]
    simp [c]
  · rw [if_neg c]
    simp [c]
theorem ok_long {f : Addr} {fd : FuncData} (F : Fun K "long_stretches" "long_stretches" sLong f fd) (T : Txt K mg C fI) (hG : Has P w K mg base CX0 1 "good_sections" ["low", "high", "sections"] (spGood K)) (hS : Has P w K mg base CX0 1 "stretches" ["numbers"] (spStre K)) :
    FnOk P w K mg base CX0 2 f fd ["low", "high", "least", "sections"] (spLong K) := by
  obtain ⟨fG, fdG, GG, bG, gG, kG⟩ := hG
  obtain ⟨fS, fdS, GS, bS, gS, kS⟩ := hS
  refine F.ok scLo (fun vs H Q E h => ?_) (fun cdv A outer s H vs Q E hr h => ?_)
  · obtain ⟨lo, hi, p, a, l, rfl, _⟩ := h
    rfl
  · refine ⟨_, pss_cons (ps_set (i := 4) scLo.nd rfl (Or.inl rfl) (pe_call GS hr rfl gS kS bS .nil pass0 (pa_cons (pe_call GG hr rfl gG kG bG .nil pass0 (pa_cons (pv 0) (pa_cons (pv 1) (pa_cons (pv 3) pa_nil)))) pa_nil)))
      (pss_one (ps_ret (pe_lc (own := [("stretch", 5)]) (g := gName 5) rfl scLo.nd (pi_list (pv 4)) (blkOk_by (own := [("stretch", 5)]) (N := ["low", "high", "least", "sections", "some", "stretch"]) (sc := defScope sLong) (by decide +kernel))
        (fun _ _ _ _ _ => pg_name (i := 5) scLo.nd rfl (Or.inl rfl)) (fun _ _ _ _ _ => pts_one (pt_cmpR op_ge (pe_callB (len_in (K := K) rfl) (by rfl) T.len PySem.boot_len (pa_cons (pv 5) pa_nil)) (pv 2) (nomark _))) (fun _ _ _ _ _ => pv 5)))), ?_⟩
    obtain ⟨lo, hi, p, a, l, rfl, hSq, hl, k⟩ := h
    have gl := goods_len lo hi l
    refine ⟨_, rfl, _, rfl, _, rfl, lo, hi, a, l, rfl, hSq, hl, fun H1 D1 s1 n1 h1 => ?_⟩
    refine ⟨D1, goods lo hi l, rfl, SqL.of h1, by omega, fun H2 F2 ps M => ?_⟩
    have sl := stre_len (goods lo hi l)
    refine ⟨_, rfl, F2, rfl, ⟨_, SqL.of M.lst⟩, fun D hD => lc_list (K := K) (a := F2) (xs := ps.map V.ref) (fun i H' => ∃ rs : List Addr, Same H2 H' ∧ (∀ r ∈ rs, r ∈ ps) ∧ H' D = some (.lst (rs.map V.ref)) ∧ Rows H' rs (((stre (goods lo hi l)).take i).filter fun s => decide (p ≤ s.length)))
      ⟨[], sameNew hD, by simp, upd_same, .nil⟩ (fun i H' _ ⟨_, z, _⟩ => z.seq (SqL.of M.lst)) ?_ ?_⟩
    · rintro i x H3 hx ⟨rs, s3, sub, h3, r3⟩
      obtain ⟨q, hq, rfl⟩ := get_map hx
      obtain ⟨t, ht, hqt⟩ := M.rows.at hq
      have hqt3 := s3 _ _ hqt
      have rl : rs.length ≤ 44 := by
        rw [r3.len]
        refine Nat.le_trans (List.length_filter_le _ _) ?_
        rw [List.length_take]
        omega
      refine ⟨rfl, _, rfl, q, _, rfl, .inl (SqL.of hqt3), _, rfl, _, _, rfl, rfl, _, rfl, ?_⟩
      rw [List.length_map]
      by_cases c : p ≤ t.length
      · refine if_true_of (decide_eq_true (by omega)) ⟨_, rfl, _, h3, ?_, rs ++ [q], sameOn s3 hD, fun r hr => ?_, ?_, ?_⟩
        · rw [List.length_map]
          exact line_of (by omega)
        · rcases List.mem_append.mp hr with z | z
          · exact sub r z
          · have z' : r = q := by simpa using z
            rw [z']
            exact List.mem_of_getElem? hq
        · rw [upd_same, List.map_append]
          rfl
        · have nD : ∀ r ∈ ps, D ≠ r := fun r hr z => by
            obtain ⟨o, ho⟩ := M.rows.there hr
            rw [← z, hD] at ho
            cases ho
          rw [filter_more ht, if_pos (decide_eq_true c)]
          refine Rows.snoc ?_ (r3.upd fun z => nD D (sub D z) rfl)
          rw [upd_ne (nD q (List.mem_of_getElem? hq)).symm]
          exact hqt3
      · refine if_false_of (decide_eq_false (by omega)) ⟨rs, s3, sub, h3, ?_⟩
        rw [filter_more ht, if_neg (by rw [decide_eq_false c]; exact Bool.false_ne_true), List.append_nil]
        exact r3
    · rintro H3 ⟨rs, s3, sub, h3, r3⟩
      rw [List.length_map, M.rows.len, List.take_length] at r3
      refine k H3 D rs ⟨s1.trans (M.same.trans s3), ?_, fun r hr => ?_, fun z => ?_, h3, r3⟩
      · exact (s1.trans M.same).free hD
      · exact s1.free (M.nps r (sub r hr))
      · obtain ⟨o, ho⟩ := M.rows.there (sub D z)
        rw [hD] at ho
        cases ho
/-! ### can_cut -/
def spCan (K : PySem.W.Frag) : Sp := fun vs H Q _ => ∃ (a : Addr) (u : List Nat) (i p j n : Nat), vs = [.ref a, vN i, vN p, vN j, vN n] ∧ SqL K H a (u.map vN) ∧ u.length ≤ 44 ∧
  ∀ H', Same H H' → Q (.bl (can p j n u i)) H'
theorem scC : FnScope ["usable", "at", "least", "joins", "length", "pieces", "piece"] ["usable", "at", "least", "joins", "length"] (defScope sCan) := ⟨rfl, rfl, rfl, by decide +kernel, rfl, by decide +kernel, by decide +kernel⟩
theorem cut_nat {u : List Nat} {i n : Nat} (h : i + n ≤ u.length) : cutV (u.map vN) (some (i : Int)) (some ((i : Int) + (n : Int))) = ((u.drop i).take n).map vN := by
  have e : ((i : Int) + (n : Int)) = ((i + n : Nat) : Int) := by omega
  unfold cutV
  rw [e, HT.sIx_nat, HT.sIx_nat, List.length_map, Nat.min_eq_left (show i ≤ u.length by omega), Nat.min_eq_left h, List.map_take, List.map_drop]
  congr 1
  omega
theorem ok_can {f : Addr} {fd : FuncData} (F : Fun K "can_cut" "can_cut" sCan f fd) (T : Txt K mg C fI) (hS : Has P w K mg base CX0 1 "stretches" ["numbers"] (spStre K)) :
    FnOk P w K mg base CX0 2 f fd ["usable", "at", "least", "joins", "length"] (spCan K) := by
  obtain ⟨fS, fdS, GS, bS, gS, kS⟩ := hS
  refine F.ok scC (fun vs H Q E h => ?_) (fun cdv A outer s H vs Q E hr h => ?_)
  · obtain ⟨a, u, i, p, j, n, rfl, _⟩ := h
    rfl
  · refine ⟨_, pss_cons (ps_if (pt_cmpR op_gt (pe_op op_add (pv 1) (pv 4)) (pe_callB call_len_seq (by rfl) T.len PySem.boot_len (pa_cons (pv 0) pa_nil)) (nomark _)) (pss_one (ps_ret pe_bl)) pss_nil)
      (pss_cons (ps_set (i := 5) scC.nd rfl (Or.inl rfl) (pe_call GS hr rfl gS kS bS .nil pass0 (pa_cons (pe_slice sl_list (pv 0) (po_some (pv 1)) (po_some (pe_op op_add (pv 1) (pv 4)))) pa_nil)))
      (pss_one (ps_ret (pe_and (pe_cmpR op_le (pe_callB call_len_seq (by rfl) T.len PySem.boot_len (pa_cons (pv 5) pa_nil)) (pe_op op_add (pv 3) pe_int) (nomark _))
        (pe_one (pe_callB (cr_all rfl) (by rfl) T.all (by decide +kernel) (pa_cons
          (pe_lc (own := [("piece", 6)]) (g := gName 6) (tt := tYes) rfl scC.nd (pi_list (pv 5)) (blkOk_by (own := [("piece", 6)]) (N := ["usable", "at", "least", "joins", "length", "pieces", "piece"]) (sc := defScope sCan) (by decide +kernel))
            (fun _ _ _ _ _ => pg_name (i := 6) scC.nd rfl (Or.inl rfl)) (fun _ _ _ _ _ => pts_nil) (fun _ _ _ _ _ => pe_cmpR op_ge (pe_callB (len_in (K := K) rfl) (by rfl) T.len PySem.boot_len (pa_cons (pv 6) pa_nil)) (pv 2) (nomark _))) pa_nil))))))), ?_⟩
    obtain ⟨a, u, i, p, j, n, rfl, hSq, hl, k⟩ := h
    refine ⟨_, rfl, _, rfl, _, _, rfl, rfl, _, rfl, a, _, rfl, .inl hSq, _, _, rfl, rfl, _, rfl, ?_⟩
    rw [List.length_map]
    by_cases c : i + n ≤ u.length
    · refine if_false_of (decide_eq_false (by omega)) ?_
      refine ⟨_, rfl, _, rfl, _, rfl, _, rfl, _, rfl, _, _, rfl, rfl, _, rfl, a, _, rfl, hSq, fun q nq => ?_⟩
      rw [cut_nat c]
      generalize ev : (u.drop i).take n = v
      have vl : v.length ≤ 44 := by
        rw [← ev, List.length_take, List.length_drop]
        omega
      have s1 : Same H (upd H q (.lst (v.map vN))) := sameNew nq
      refine ⟨q, v, rfl, SqL.of upd_same, vl, fun H2 F2 ps M => ?_⟩
      have sl := stre_len v
      have e0 : can p j n u i = (decide ((stre v).length ≤ j + 1) && (stre v).all fun s => decide (p ≤ s.length)) := by
        unfold can
        rw [ev, decide_eq_true c, Bool.true_and]
      have s2 : Same H H2 := s1.trans M.same
      refine ⟨_, rfl, F2, _, rfl, .inl (SqL.of M.lst), _, rfl, _, _, rfl, rfl, _, _, rfl, rfl, _, rfl, ?_⟩
      rw [List.length_map, M.rows.len]
      by_cases d : (stre v).length ≤ j + 1
      · refine if_true_of (decide_eq_true (by omega)) ?_
        refine ⟨_, rfl, F2, rfl, ⟨_, SqL.of M.lst⟩, fun D hD => lc_list (K := K) (a := F2) (xs := ps.map V.ref) (fun i H3 => Same H2 H3 ∧ H3 D = some (.lst ((((stre v).take i).map fun s => decide ((p : Int) ≤ (s.length : Int))).map V.bl))) ⟨sameNew hD, upd_same⟩ (fun i H3 _ z => z.1.seq (SqL.of M.lst)) ?_ ?_⟩
        · rintro i2 x H3 hx ⟨s3, h3⟩
          obtain ⟨q2, hq2, rfl⟩ := get_map hx
          obtain ⟨t, ht, hqt⟩ := M.rows.at hq2
          refine ⟨rfl, tyes ⟨_, rfl, q2, _, rfl, .inl (SqL.of (s3 _ _ hqt)), _, rfl, _, _, rfl, rfl, _, h3, line_of ?_, sameOn s3 hD, ?_⟩⟩
          · rw [List.length_map, List.length_map, List.length_take]
            omega
          · rw [upd_same, take_more ht, List.map_append, List.map_append, List.length_map]
            rfl
        · rintro H3 ⟨s3, h3⟩
          rw [List.length_map, M.rows.len, List.take_length] at h3
          refine ⟨D, _, rfl, SqL.of h3, ?_⟩
          have e1 : ((stre v).map fun s => decide ((p : Int) ≤ (s.length : Int))).all id = can p j n u i := by
            rw [e0, decide_eq_true d, Bool.true_and, List.all_map]
            congr 1
            funext s
            show decide ((p : Int) ≤ (s.length : Int)) = decide (p ≤ s.length)
            congr 1
            apply propext
            omega
          rw [e1]
          exact k H3 (s2.trans s3)
      · refine if_false_of (decide_eq_false (by omega)) ?_
        have e1 : can p j n u i = false := by rw [e0, decide_eq_false d, Bool.false_and]
        have z := k H2 s2
        rw [e1] at z
        exact z
    · refine if_true_of (decide_eq_true (by omega)) ?_
      have e1 : can p j n u i = false := by
        unfold can
        rw [decide_eq_false c, Bool.false_and]
      have z := k H (Same.refl H)
      rw [e1] at z
      exact z
/-! ### most_behind -/
def spBehind (K : PySem.W.Frag) : Sp := fun vs H Q _ => ∃ (a : Addr) (bs : List Bool) (n : Nat), vs = [.ref a, vN n] ∧ SqL K H a (bs.map V.bl) ∧ bs.length ≤ 44 ∧ 1 ≤ n ∧ (∀ i, bs[i]? = some true → i + n ≤ bs.length) ∧
  ∀ H' F, Same H H' → H F = none → H' F = some (.lst ((behind n bs).map vN)) → Q (.ref F) H'
theorem scB : FnScope ["fits", "length", "found", "at", "most"] ["fits", "length"] (defScope sBehind) := ⟨rfl, rfl, rfl, by decide +kernel, rfl, by decide +kernel, by decide +kernel⟩
theorem get_of {l : List Nat} {i : Nat} (h : i < l.length) : (l.map vN)[i]? = some (vN (l.getD i 0)) := by
  rw [List.getElem?_map, List.getElem?_eq_getElem h]
  show some (vN l[i]) = some (vN (l.getD i 0))
  rw [List.getD, List.getElem?_eq_getElem h]
  rfl
theorem ok_behind {f : Addr} {fd : FuncData} (F : Fun K "most_behind" "most_behind" sBehind f fd) (T : Txt K mg C fI) : FnOk P w K mg base CX0 1 f fd ["fits", "length"] (spBehind K) := by
  refine F.ok scB (fun vs H Q E h => ?_) (fun cdv A outer s H vs Q E hr h => ?_)
  · obtain ⟨a, bs, n, rfl, _⟩ := h
    rfl
  · refine ⟨_, pss_cons (ps_set (i := 2) scB.nd rfl (Or.inl rfl) (pe_lst (pa_cons pe_int pa_nil)))
      (pss_cons (ps_for PassesOwn.never rfl (pi_range3 (by rfl) T.range (pa_cons (pe_op op_sub (pe_callB call_len_seq (by rfl) T.len PySem.boot_len (pa_cons (pv 0) pa_nil)) pe_int) (pa_cons (pe_un un_neg pe_int) (pa_cons (pe_un un_neg pe_int) pa_nil)))) (pg_name (i := 3) scB.nd rfl (Or.inl rfl))
        (pss_cons (ps_set (i := 4) scB.nd rfl (Or.inl rfl) (pe_ix ix_list (pv 2) pe_int (fun _ _ => rfl)))
        (pss_cons (ps_if (pt_val (pe_ix ix_list (pv 0) (pv 3) (fun _ _ => rfl)))
          (pss_one (ps_set (i := 4) scB.nd rfl (Or.inl rfl) (pe_callB (call_max2 rfl) (by rfl) T.max (by decide +kernel) (pa_cons (pv 4) (pa_cons (pe_op op_add pe_int (pe_ix ix_list (pv 2) (pe_op op_sub (pv 1) pe_int) (fun _ _ => rfl))) pa_nil))))) pss_nil)
        (pss_one (ps_expr (pe_bm PySem.F.plainAttrs_list PySem.F.slot_list_insert PySem.F.type_list_insert mt_insert (pv 2) (pa_cons pe_int (pa_cons (pv 4) pa_nil))))))))
      (pss_one (ps_ret (pv 2)))), ?_⟩
    obtain ⟨a, bs, n, rfl, hSq, hl, hn, hfit, k⟩ := h
    refine ⟨(by show 1 ≤ sizeLine; decide), fun F nF => ?_⟩
    have hlen : (((bs.map V.bl).length : Int) - 1) = (bs.length : Int) - 1 := by rw [List.length_map]
    have s1 : Same H (upd H F (.lst [V.int 0])) := sameNew nF
    refine ⟨_, rfl, a, _, rfl, .inl (s1.seq hSq), _, _, rfl, rfl, _, rfl, _, rfl, _, -1, -1, bs.length, rfl, ?_, for_rangeC (lo := ((bs.map V.bl).length : Int) - 1) (c := -1) (n := bs.length) (fun t σ H' => ∃ v3 v4 : Option V, σ = [some (.ref a), some (vN n), some (.ref F), v3, v4] ∧ Same H H' ∧ H' F = some (.lst ((behind n (bs.drop (bs.length - t))).map vN)))
      ⟨none, none, rfl, s1, ?_⟩ ?_ ?_⟩
    · have z := RgC.neg (i := ((bs.map V.bl).length : Int) - 1) (j := -1) (by omega) (by rw [hlen]; omega) (by decide) (by decide)
      have e : ((((bs.map V.bl).length : Int) - 1) - -1).toNat = bs.length := by rw [hlen]; omega
      rw [e] at z
      exact z
    · rw [Nat.sub_zero, List.drop_length, upd_same]
      rfl
    · rintro t σ H1 ht ⟨v3, v4, rfl, s2, h2⟩
      rw [hlen]
      obtain ⟨i, hi⟩ : ∃ i, i = bs.length - 1 - t := ⟨_, rfl⟩
      have ei : ((bs.length : Int) - 1 + (t : Nat) * (-1)) = (i : Int) := by omega
      rw [ei]
      have e1 : bs.length - t = i + 1 := by omega
      have e2 : bs.length - (t + 1) = i := by omega
      have hlt : i < bs.length := by omega
      rw [e1] at h2
      rw [e2]
      have ed : bs.drop i = bs[i] :: bs.drop (i + 1) := List.drop_eq_getElem_cons hlt
      have hb : (bs.map V.bl)[i]? = some (V.bl bs[i]) := by rw [List.getElem?_map, List.getElem?_eq_getElem hlt]; rfl
      have fl : (behind n (bs.drop (i + 1))).length = bs.length - i := by
        rw [behind_len, List.length_drop]
        omega
      have step : ∀ m : Nat, m = (if bs[i] = true then max ((behind n (bs.drop (i + 1))).getD 0 0) (1 + (behind n (bs.drop (i + 1))).getD (n - 1) 0) else (behind n (bs.drop (i + 1))).getD 0 0) →
          behind n (bs.drop i) = m :: behind n (bs.drop (i + 1)) := fun m hm => by
        rw [ed, hm]
        rfl
      generalize behind n (bs.drop (i + 1)) = B at h2 fl step
      have h0 : (B.map vN)[0]? = some (vN (B.getD 0 0)) := get_of (by omega)
      have fin : ∀ (m : Nat) (σ' : L2.St) (v : V), behind n (bs.drop i) = m :: B → v = vN m → Same H (upd H1 F (.lst (List.take (0 : Int).toNat (B.map vN) ++ [v] ++ List.drop (0 : Int).toNat (B.map vN)))) ∧ (upd H1 F (.lst (List.take (0 : Int).toNat (B.map vN) ++ [v] ++ List.drop (0 : Int).toNat (B.map vN)))) F = some (.lst ((behind n (bs.drop i)).map vN)) := fun m σ' v hm hv => by
        refine ⟨sameOn s2 nF, ?_⟩
        rw [upd_same, hm, hv]
        rfl
      refine ⟨_, rfl, F, _, _, vN (B.getD 0 0), rfl, rfl, SqL.of h2, at_of rfl h0, _, rfl, _, rfl, a, _, _, V.bl bs[i], rfl, rfl, s2.seq hSq, at_of rfl hb, _, rfl, ?_⟩
      have sz : (B.map vN).length < sizeLine := by
        rw [List.length_map]
        exact line_of (by omega)
      by_cases c : bs[i] = true
      · have room := hfit i (by rw [List.getElem?_eq_getElem hlt, c])
        have hx : (B.map vN)[n - 1]? = some (vN (B.getD (n - 1) 0)) := get_of (by omega)
        refine if_true_of c ?_
        refine ⟨_, rfl, _, rfl, _, rfl, _, _, rfl, rfl, F, _, _, vN (B.getD (n - 1) 0), rfl, rfl, SqL.of h2, at_of (by omega) hx, _, _, rfl, rfl, _, _, rfl, ?_⟩
        have hm := step _ rfl
        rw [if_pos c] at hm
        obtain ⟨f1, f2⟩ := fin _ [] (V.int (if (1 : Int) + ((B.getD (n - 1) 0 : Nat) : Int) > ((B.getD 0 0 : Nat) : Int) then (1 : Int) + ((B.getD (n - 1) 0 : Nat) : Int) else ((B.getD 0 0 : Nat) : Int))) hm (by
          show V.int _ = V.int _
          congr 1
          split <;> omega)
        exact ⟨_, rfl, .inl ⟨rfl, _, SqL.of h2⟩, _, rfl, F, _, 0, _, rfl, rfl, h2, sz, by decide, by decide, _, _, rfl, f1, f2⟩
      · have c' : bs[i] = false := by simpa using c
        refine if_false_of c' ?_
        have hm := step _ rfl
        rw [if_neg c] at hm
        obtain ⟨f1, f2⟩ := fin _ [] (vN (B.getD 0 0)) hm rfl
        exact ⟨_, rfl, .inl ⟨rfl, _, SqL.of h2⟩, _, rfl, F, _, 0, _, rfl, rfl, h2, sz, by decide, by decide, _, _, rfl, f1, f2⟩
    · rintro σ H1 ⟨v3, v4, rfl, s2, h2⟩
      rw [Nat.sub_self] at h2
      exact ⟨_, rfl, k H1 F s2 nF h2⟩
/-! ### first_of_most -/
def spFirst (K : PySem.W.Frag) : Sp := fun vs H Q _ => ∃ (a : Addr) (p j n : Nat) (u : List Nat), vs = [.ref a, vN n] ∧ SqL K H a ((fits p j n u).map V.bl) ∧ u.length ≤ 44 ∧ 1 ≤ n ∧
  ∀ H' F (is : List Nat), Same H H' → H F = none → H' F = some (.lst (is.map vN)) → is.length ≤ 44 → (∀ i ∈ is, i < u.length) → is.map (fun i => u.getD i 0) = best p j n u → Q (.ref F) H'
theorem scF : FnScope ["fits", "length", "most", "found", "at"] ["fits", "length"] (defScope sFirst) := ⟨rfl, rfl, rfl, by decide +kernel, rfl, by decide +kernel, by decide +kernel⟩
/-- where the loop stands -/
def atOf (σ : List (Option V)) : Nat := match σ.getD 4 none with
  | some (V.int z) => z.toNat
  | _ => 0
theorem fits_room {p j n : Nat} {u : List Nat} {i : Nat} (h : (fits p j n u)[i]? = some true) : i + n ≤ (fits p j n u).length := by
  have hi : i < u.length := by
    have z := (List.getElem?_eq_some_iff.mp h).1
    rw [fits_len] at z
    exact z
  rw [fits_at hi] at h
  rw [fits_len]
  exact can_room (Option.some.inj h)
theorem best_nil (p j n : Nat) : best p j n [] = [] := rfl
theorem ok_first {f : Addr} {fd : FuncData} (F : Fun K "first_of_most" "first_of_most" sFirst f fd) (T : Txt K mg C fI) (hB : Has P w K mg base CX0 1 "most_behind" ["fits", "length"] (spBehind K)) :
    FnOk P w K mg base CX0 2 f fd ["fits", "length"] (spFirst K) := by
  obtain ⟨fB, fdB, GB, bB, gB, kB⟩ := hB
  refine F.ok scF (fun vs H Q E h => ?_) (fun cdv A outer s H vs Q E hr h => ?_)
  · obtain ⟨a, p, j, n, u, rfl, _⟩ := h
    rfl
  · refine ⟨_, pss_cons (ps_set (i := 2) scF.nd rfl (Or.inl rfl) (pe_call GB hr rfl gB kB bB .nil pass0 (pa_cons (pv 0) (pa_cons (pv 1) pa_nil))))
      (pss_cons (ps_set (i := 3) scF.nd rfl (Or.inl rfl) (pe_lst pa_nil))
      (pss_cons (ps_set (i := 4) scF.nd rfl (Or.inl rfl) pe_int)
      (pss_cons (ps_while PassesOwn.never (pt_cmpR op_lt (pv 4) (pe_callB call_len_seq (by rfl) T.len PySem.boot_len (pa_cons (pv 0) pa_nil)) (nomark _))
        (pss_one (ps_if (PW.pt (pw_and (pt_val (pe_ix ix_list (pv 0) (pv 4) (fun _ _ => rfl))) (pw_and1 (pt_cmpR op_eq (pe_op op_add pe_int (pe_ix ix_list (pv 2) (pe_op op_add (pv 4) (pv 1)) (fun _ _ => rfl))) (pe_ix ix_list (pv 2) (pv 4) (fun _ _ => rfl)) (nomark _)))))
          (pss_cons (ps_expr (pe_bm PySem.F.plainAttrs_list PySem.F.slot_list_append PySem.F.type_list_append mt_append (pv 3) (pa_cons (pv 4) pa_nil))) (pss_one (ps_set (i := 4) scF.nd rfl (Or.inl rfl) (pe_op op_add (pv 4) (pv 1)))))
          (pss_one (ps_set (i := 4) scF.nd rfl (Or.inl rfl) (pe_op op_add (pv 4) pe_int))))))
      (pss_one (ps_ret (pv 3)))))), ?_⟩
    obtain ⟨a, p, j, n, u, rfl, hSq, hl, hn, k⟩ := h
    have fl := fits_len p j n u
    refine ⟨_, rfl, _, rfl, a, _, n, rfl, hSq, by omega, hn, fun i hi => fits_room hi, fun H1 M s1 nM hM => ?_⟩
    refine ⟨(by show 0 ≤ sizeLine; decide), fun F nF => ?_⟩
    have s2 : Same H1 (upd H1 F (.lst [])) := sameNew nF
    have hat : ∀ i, i ≤ u.length → ((behind n (fits p j n u)).map vN)[i]? = some (vN (best p j n (u.drop i)).length) := fun i hi => by
      rw [get_of (by rw [behind_len, fl]; omega), behind_at hn u i hi]
    refine while_by (fun σ H' => ∃ (i : Nat) (is : List Nat), σ = [some (.ref a), some (vN n), some (.ref M), some (.ref F), some (vN i)] ∧ i ≤ u.length ∧ Same H1 H' ∧ H' F = some (.lst (is.map vN)) ∧ is.length ≤ i ∧ (∀ x ∈ is, x < u.length) ∧ is.map (fun i => u.getD i 0) ++ best p j n (u.drop i) = best p j n u)
      (fun σ _ => u.length - atOf σ) ⟨0, [], rfl, Nat.zero_le _, s2, upd_same, Nat.le_refl _, by simp, rfl⟩ ?_ ?_
    · rintro σ H2 ⟨i, is, rfl, hi, s3, h3, hil, his, hsp⟩
      have hF3 := (s1.trans s3).seq hSq
      have hM3 := s3 _ _ hM
      refine ⟨_, rfl, _, rfl, a, _, rfl, .inl hF3, _, _, rfl, rfl, _, rfl, ?_⟩
      rw [List.length_map, fl]
      by_cases c : i < u.length
      · refine if_true_of (decide_eq_true (by omega)) ?_
        have hb : ((fits p j n u).map V.bl)[i]? = some (V.bl (can p j n u i)) := by rw [List.getElem?_map, fits_at c]; rfl
        have hu : u[i]? = some u[i] := List.getElem?_eq_getElem c
        have ug : u.getD i 0 = u[i] := by rw [List.getD, hu]; rfl
        refine ⟨_, rfl, _, rfl, a, _, _, V.bl (can p j n u i), rfl, rfl, hF3, at_of rfl hb, _, rfl, ?_⟩
        have skip : ¬ (can p j n u i = true ∧ 1 + (best p j n (u.drop (i + n))).length = (best p j n (u.drop i)).length) →
            is.map (fun i => u.getD i 0) ++ best p j n (u.drop (i + 1)) = best p j n u := fun z => by
          rw [← best_skip hn hu z]
          exact hsp
        by_cases d : can p j n u i = true
        · have room := can_room d
          refine if_true_of d ?_
          refine ⟨_, rfl, _, rfl, _, rfl, _, _, rfl, rfl, M, _, _, _, rfl, rfl, SqL.of hM3, at_of (j := i + n) (by omega) (hat (i + n) room), _, _, rfl, rfl, _, rfl, _, rfl, M, _, _, _, rfl, rfl, SqL.of hM3, at_of rfl (hat i hi), rfl, _, rfl, ?_⟩
          by_cases e : 1 + (best p j n (u.drop (i + n))).length = (best p j n (u.drop i)).length
          · refine if_true_of (decide_eq_true (by show V.int _ = V.int _; congr 1; omega)) ?_
            refine ⟨_, rfl, .inl ⟨rfl, _, SqL.of h3⟩, _, rfl, F, _, _, rfl, rfl, h3, ?_, _, rfl, _, rfl, _, _, rfl, rfl, ⟨i + n, is ++ [i], rfl, room, sameOn s3 nF, ?_, ?_, fun x hx => ?_, ?_⟩, ?_⟩
            · rw [List.length_map]
              exact line_of (by omega)
            · rw [upd_same, List.map_append]
              rfl
            · rw [List.length_append, List.length_singleton]
              omega
            · rcases List.mem_append.mp hx with z | z
              · exact his x z
              · have z' : x = i := by simpa using z
                omega
            · rw [List.map_append, List.append_assoc, ← hsp, best_take hn hu d e]
              show _ ++ (u.getD i 0 :: best p j n (u.drop (i + n))) = _
              rw [ug]
            · show u.length - ((i : Int) + (n : Int)).toNat < u.length - (i : Int).toNat
              omega
          · refine if_false_of (decide_eq_false (fun z => e ?_)) ?_
            · have z' := V.int.inj z
              omega
            refine ⟨_, rfl, _, _, rfl, rfl, ⟨i + 1, is, rfl, by omega, s3, h3, by omega, his, skip fun z => e z.2⟩, ?_⟩
            show u.length - ((i : Int) + 1).toNat < u.length - (i : Int).toNat
            omega
        · have d' : can p j n u i = false := by simpa using d
          refine if_false_of d' (if_false_of rfl ?_)
          refine ⟨_, rfl, _, _, rfl, rfl, ⟨i + 1, is, rfl, by omega, s3, h3, by omega, his, skip fun z => d z.1⟩, ?_⟩
          show u.length - ((i : Int) + 1).toNat < u.length - (i : Int).toNat
          omega
      · refine if_false_of (decide_eq_false (by omega)) ?_
        have ei : i = u.length := by omega
        rw [ei, List.drop_length, best_nil, List.append_nil] at hsp
        exact ⟨_, rfl, k H2 F is (s1.trans s3) (s1.free nF) h3 (by omega) his hsp⟩
    · rintro σ H2 Q1 Q2 hQ ⟨v, hv, v2, hv2, p2, ys, e1, e2, i1, i2, e3, e4, k2, e5, q⟩
      exact ⟨v, hv, v2, hv2, p2, ys, e1, e2, i1, i2, e3, e4, k2, e5, hQ _ _ q⟩
/-! ### begins_of_rolls -/
def spBegins (K : PySem.W.Frag) : Sp := fun vs H Q _ => ∃ (a : Addr) (u : List Nat) (p j n : Nat), vs = [.ref a, vN p, vN j, vN n] ∧ SqL K H a (u.map vN) ∧ u.length ≤ 44 ∧ 1 ≤ n ∧
  ∀ H' D, Same H H' → H D = none → (best p j n u).length ≤ 44 → H' D = some (.lst ((best p j n u).map vN)) → Q (.ref D) H'
theorem scN : FnScope ["usable", "least", "joins", "length", "fits", "at"] ["usable", "least", "joins", "length"] (defScope sBegins) := ⟨rfl, rfl, rfl, by decide +kernel, rfl, by decide +kernel, by decide +kernel⟩
theorem fits_more {p j n : Nat} {u : List Nat} {i : Nat} (h : i < u.length) : (fits p j n u).take (i + 1) = (fits p j n u).take i ++ [can p j n u i] := take_more (fits_at h)
theorem ok_begins {f : Addr} {fd : FuncData} (F : Fun K "begins_of_rolls" "begins_of_rolls" sBegins f fd) (T : Txt K mg C fI) (hC : Has P w K mg base CX0 2 "can_cut" ["usable", "at", "least", "joins", "length"] (spCan K)) (hF : Has P w K mg base CX0 2 "first_of_most" ["fits", "length"] (spFirst K)) :
    FnOk P w K mg base CX0 3 f fd ["usable", "least", "joins", "length"] (spBegins K) := by
  obtain ⟨fC, fdC, GC, bC, gC, kC⟩ := hC
  obtain ⟨fF, fdF, GF, bF, gF, kF⟩ := hF
  refine F.ok scN (fun vs H Q E h => ?_) (fun cdv A outer s H vs Q E hr h => ?_)
  · obtain ⟨a, u, p, j, n, rfl, _⟩ := h
    rfl
  · refine ⟨_, pss_cons (ps_setLc (i := 4) (own := [("at", 5)]) (g := gName 5) (tt := tYes) rfl scN.nd rfl rfl (sw_true rfl rfl rfl (by decide +kernel))
        (pi_range1 (by rfl) T.range (pa_cons (pe_callB call_len_seq (by rfl) T.len PySem.boot_len (pa_cons (pv 0) pa_nil)) pa_nil))
        (blkOk_by (own := [("at", 5)]) (N := ["usable", "least", "joins", "length", "fits", "at"]) (sc := defScope sBegins) (by decide +kernel))
        (fun _ _ _ _ _ => pg_name (i := 5) scN.nd rfl (Or.inl rfl)) (fun _ _ _ _ _ => pts_nil) (fun _ _ _ _ _ => pe_call GC hr rfl gC kC bC .nil pass0 (pa_cons (pv 0) (pa_cons (pv 5) (pa_cons (pv 1) (pa_cons (pv 2) (pa_cons (pv 3) pa_nil)))))))
      (pss_one (ps_ret (pe_lc (own := [("at", 5)]) (g := gName 5) (tt := tYes) rfl scN.nd (pi_list (pe_call GF hr rfl gF kF bF .nil pass0 (pa_cons (pv 4) (pa_cons (pv 3) pa_nil))))
        (blkOk_by (own := [("at", 5)]) (N := ["usable", "least", "joins", "length", "fits", "at"]) (sc := defScope sBegins) (by decide +kernel))
        (fun _ _ _ _ _ => pg_name (i := 5) scN.nd rfl (Or.inl rfl)) (fun _ _ _ _ _ => pts_nil) (fun _ _ _ _ _ => pe_ix (ix_in (K := K) rfl) (pv 0) (pv 5) (fun _ _ => rfl))))), ?_⟩
    obtain ⟨a, u, p, j, n, rfl, hSq, hl, hn, k⟩ := h
    have fl := fits_len p j n u
    have lm : (u.map vN).length = u.length := List.length_map ..
    refine ⟨_, rfl, a, _, rfl, .inl hSq, _, rfl, by omega, by rw [lm]; omega, fun D hD => lc_range (lo := 0) (n := ((u.map vN).length : Int).toNat) (fun i H' => Same H H' ∧ H' D = some (.lst (((fits p j n u).take i).map V.bl))) ⟨sameNew hD, upd_same⟩ ?_ ?_⟩
    · rintro i H1 hi ⟨s1, h1⟩
      have hi' : i < u.length := by omega
      have ez : V.int ((0 : Int) + (i : Nat)) = vN i := by show V.int _ = V.int _; congr 1; omega
      rw [ez]
      refine ⟨rfl, tyes ⟨_, rfl, _, rfl, _, rfl, _, rfl, _, rfl, a, u, i, p, j, n, rfl, s1.seq hSq, hl, fun H2 s2 => ⟨_, s2 _ _ h1, line_of ?_, sameOn (s1.trans s2) hD, ?_⟩⟩⟩
      · rw [List.length_map, List.length_take]
        omega
      · rw [upd_same, fits_more hi', List.map_append]
        rfl
    · rintro H1 ⟨s1, h1⟩
      have e : ((u.map vN).length : Int).toNat = (fits p j n u).length := by rw [lm, fl]; omega
      rw [e, List.take_length] at h1
      refine ⟨_, rfl, _, rfl, D, p, j, n, u, rfl, SqL.of h1, hl, hn, fun H2 F2 is s2 nF h2 hil his hsp => ?_⟩
      refine ⟨F2, rfl, ⟨_, SqL.of h2⟩, fun D2 hD2 => lc_list (K := K) (a := F2) (xs := is.map vN) (fun i H3 => Same H2 H3 ∧ H3 D2 = some (.lst (((is.take i).map fun x => u.getD x 0).map vN))) ⟨sameNew hD2, upd_same⟩ (fun i H3 _ z => z.1.seq (SqL.of h2)) ?_ ?_⟩
      · rintro i x H3 hx ⟨s3, h3⟩
        obtain ⟨m, hm, rfl⟩ := get_map hx
        have hmu := his m (List.mem_of_getElem? hm)
        refine ⟨rfl, tyes ⟨_, rfl, _, rfl, a, _, _, _, rfl, rfl, ((s1.trans s2).trans s3).seq hSq, at_of rfl (get_of hmu), _, h3, line_of ?_, sameOn s3 hD2, ?_⟩⟩
        · rw [List.length_map, List.length_map, List.length_take]
          omega
        · rw [upd_same, take_more hm, List.map_append, List.map_append]
          rfl
      · rintro H3 ⟨s3, h3⟩
        rw [List.length_map, List.take_length, hsp] at h3
        refine k H3 D2 ((s1.trans s2).trans s3) ((s1.trans s2).free hD2) ?_ h3
        rw [← hsp, List.length_map]
        exact hil
/-! ### rolls -/
def spMain (K : PySem.W.Frag) : Sp := fun vs H Q _ => ∃ (lo hi p j n : Nat) (a : Addr) (l : List Nat), vs = [vN lo, vN hi, vN p, vN j, vN n, .ref a] ∧ SqL K H a (l.map vN) ∧ l.length ≤ 44 ∧
  ∀ (H' : Hp) (q : Addr), H' q = some (.lst ((due (Kza4.answer (.rolls lo hi p j n l))).map V.int)) → Q (.ref q) H'
theorem scM : FnScope ["lo", "hi", "p", "j", "n", "sections", "e", "usable", "stretch", "begins"] ["lo", "hi", "p", "j", "n", "sections"] (defScope sMain) := ⟨rfl, rfl, rfl, by decide +kernel, rfl, by decide +kernel, by decide +kernel⟩
theorem longs_len (lo hi p : Nat) (l : List Nat) : (longs lo hi p l).length ≤ l.length := by
  unfold longs
  exact Nat.le_trans (List.length_filter_le _ _) (Nat.le_trans (stre_len _) (goods_len lo hi l))
theorem ok_main {f : Addr} {fd : FuncData} (F : Fun K "rolls" "rolls" sMain f fd) (T : Txt K mg C fI) (hW : Has P w K mg base (L2.CX P w) 4 "look_web" ["sections"] (spLookWeb K C))
    (hL : Has P w K mg base (L2.CX P w) 4 "look_limits" ["low", "high"] (spLookLimits C)) (hU : Has P w K mg base (L2.CX P w) 4 "look_run" ["least"] (spLookRun C)) (hO : Has P w K mg base (L2.CX P w) 4 "look_roll" ["joins", "length"] (spLookRoll C))
    (hG : Has P w K mg base CX0 2 "long_stretches" ["low", "high", "least", "sections"] (spLong K)) (hN : Has P w K mg base CX0 3 "begins_of_rolls" ["usable", "least", "joins", "length"] (spBegins K)) :
    FnOk P w K mg base CX0 5 f fd ["lo", "hi", "p", "j", "n", "sections"] (spMain K) := by
  obtain ⟨fW, fdW, GW, bW, gW, kW⟩ := hW
  obtain ⟨fL, fdL, GL, bL, gL, kL⟩ := hL
  obtain ⟨fU, fdU, GU, bU, gU, kU⟩ := hU
  obtain ⟨fO, fdO, GO, bO, gO, kO⟩ := hO
  obtain ⟨fG, fdG, GG, bG, gG, kG⟩ := hG
  obtain ⟨fN, fdN, GN, bN, gN, kN⟩ := hN
  refine F.ok scM (fun vs H Q E h => ?_) (fun cdv A outer s H vs Q E hr h => ?_)
  · obtain ⟨lo, hi, p, j, n, a, l, rfl, _⟩ := h
    rfl
  · refine ⟨_, pss_cons (ps_try_as (i := 6) (tb := fun W => tSeq (tDrop (tCallS (spLookWeb K C) (WE W) (tCons (tVar 5) tNil))) (tSeq (tDrop (tCallS (spLookLimits C) (WE W) (tCons (tVar 0) (tCons (tVar 1) tNil)))) (tSeq (tDrop (tCallS (spLookRun C) (WE W) (tCons (tVar 2) tNil))) (tDrop (tCallS (spLookRoll C) (WE W) (tCons (tVar 3) (tCons (tVar 4) tNil)))))))
        (ts := fun a cls d => tRet (tLst (tCons (tXf a cls d C "number" (tVar 6)) tNil))) (Wout := fun _ _ _ _ => False)
        rfl rfl scM.nd rfl rfl ⟨rfl, by decide, Or.inl T.gC⟩ takes0
        (fun W pn xe tk _ => pss_cons (ps_expr (by exact (pe_callS GW hr rfl gW kW bW (fun σ => passAt tk σ) (by exact (pa_cons (pv 5) pa_nil)))))
          (pss_cons (ps_expr (by exact (pe_callS GL hr rfl gL kL bL (fun σ => passAt tk σ) (by exact (pa_cons (pv 0) (pa_cons (pv 1) pa_nil))))))
          (pss_cons (ps_expr (by exact (pe_callS GU hr rfl gU kU bU (fun σ => passAt tk σ) (by exact (pa_cons (pv 2) pa_nil)))))
          (pss_one (ps_expr (by exact (pe_callS GO hr rfl gO kO bO (fun σ => passAt tk σ) (by exact (pa_cons (pv 3) (pa_cons (pv 4) pa_nil))))))))))
        (fun a oe cls d pn hz hf => pss_one (ps_ret (pe_lst (by exact (pa_cons (pe_xf T.xf T.nN hz hf (pv 6)) pa_nil))))))
      (pss_cons (ps_set (i := 7) scM.nd rfl (Or.inl rfl) (pe_lst pa_nil))
      (pss_cons (ps_for PassesOwn.never rfl (pi_list (pe_call GG (hr.mono (by decide)) rfl gG kG bG .nil pass0 (pa_cons (pv 0) (pa_cons (pv 1) (pa_cons (pv 2) (pa_cons (pv 5) pa_nil)))))) (pg_name (i := 8) scM.nd rfl (Or.inl rfl))
        (pss_one (ps_expr (pe_bm PySem.F.plainAttrs_list PySem.F.slot_list_extend PySem.F.type_list_extend mt_extend (pv 7) (pa_cons (pv 8) pa_nil)))))
      (pss_cons (ps_set (i := 9) scM.nd rfl (Or.inl rfl) (pe_call GN (hr.mono (by decide)) rfl gN kN bN .nil pass0 (pa_cons (pv 7) (pa_cons (pv 2) (pa_cons (pv 3) (pa_cons (pv 4) pa_nil))))))
      (pss_one (ps_ret (pe_op op_cat (pe_lst (pa_cons (pe_callB call_len_seq (by rfl) T.len PySem.boot_len (pa_cons (pv 9) pa_nil)) pa_nil)) (pv 9))))))), ?_⟩
    obtain ⟨lo, hi, p, j, n, a, l, rfl, hS, hl, k⟩ := h
    refine ⟨_, rfl, a, l, rfl, hS, hl, fun hw H' s1 => ?_, fun hw H' d s1 hd => ?_⟩
    · refine ⟨_, rfl, _, rfl, lo, hi, rfl, fun hL => ?_, fun hL d hd => ?_⟩
      · refine ⟨_, rfl, p, rfl, fun hU => ?_, fun hU d hd => ?_⟩
        · refine ⟨_, rfl, _, rfl, j, n, rfl, fun hO => ?_, fun hO d hd => ?_⟩
          · have hS1 := s1.seq hS
            have hn := one_of hO
            have ll := longs_flat_len lo hi p l
            refine ⟨(by show 0 ≤ sizeLine; decide), fun U nU => ?_⟩
            have s2 : Same H' (upd H' U (.lst [])) := sameNew nU
            refine ⟨_, rfl, _, rfl, _, rfl, _, rfl, lo, hi, p, a, l, rfl, s2.seq hS1, hl, fun H2 F2 ps M => ?_⟩
            have hU2 := M.same _ _ (upd_same (H := H') (a := U) (o := .lst []))
            have nFU : F2 ≠ U := fun z => by
              have q := M.nF
              rw [z, upd_same] at q
              cases q
            have npU : ∀ q ∈ ps, q ≠ U := fun q hq z => by
              have q' := M.nps q hq
              rw [z, upd_same] at q'
              cases q'
            refine ⟨F2, rfl, ⟨_, SqL.of M.lst⟩, for_list (K := K) (a := F2) (xs := ps.map V.ref) (fun i σ H3 => ∃ v : Option V, σ = [some (vN lo), some (vN hi), some (vN p), some (vN j), some (vN n), some (.ref a), none, some (.ref U), v, none] ∧ (∀ b o, H2 b = some o → b ≠ U → H3 b = some o) ∧ H3 U = some (.lst ((((longs lo hi p l).take i).flatten).map vN)))
              ⟨none, rfl, fun _ _ e _ => e, hU2⟩ (fun i σ H3 _ ⟨_, _, z, _⟩ => SqL.of (z _ _ M.lst nFU)) ?_ ?_⟩
            · rintro i x σ H3 hx ⟨v, rfl, z3, h3⟩
              obtain ⟨q, hq, rfl⟩ := get_map hx
              obtain ⟨t, ht, hqt⟩ := M.rows.at hq
              have hqU := npU q (List.mem_of_getElem? hq)
              have hq3 := z3 _ _ hqt hqU
              refine ⟨_, rfl, .inl ⟨rfl, _, SqL.of h3⟩, _, rfl, U, q, _, _, rfl, rfl, h3, hq3, ?_, some (.ref q), rfl, fun b o e hb => ?_, ?_⟩
              · have g1 := flat_take_len (longs lo hi p l) (i + 1)
                rw [flat_more ht, List.length_append] at g1
                rw [List.length_map, List.length_map]
                exact Nat.le_of_lt (line_of (by omega))
              · rw [upd_ne hb]
                exact z3 b o e hb
              · rw [upd_same, flat_more ht, List.map_append]
            · rintro σ H3 ⟨v, rfl, z3, h3⟩
              rw [List.length_map, M.rows.len, List.take_length] at h3
              refine ⟨_, rfl, _, rfl, _, rfl, _, rfl, U, _, p, j, n, rfl, SqL.of h3, by omega, hn, fun H4 D s4 nD bl h4 => ?_⟩
              refine ⟨_, rfl, D, _, rfl, .inl (SqL.of h4), (by show 1 ≤ sizeLine; decide), fun q nq => ?_⟩
              have s5 : Same H4 (upd H4 q (.lst [V.int (((best p j n (longs lo hi p l).flatten).map vN).length : Nat)])) := sameNew nq
              refine ⟨_, rfl, q, D, _, _, rfl, rfl, upd_same, s5 _ _ h4, ?_, fun r nr => k _ r ?_⟩
              · rw [List.length_map]
                exact Nat.le_of_lt (line_of (by show 1 + _ ≤ 1000; omega))
              · rw [rolls_ok hw hL hU hO, List.map_cons, ← map_vN, upd_same, List.length_map]
                rfl
          · refine ⟨true, T.te, fun _ a0 ha0 => ?_, fun z => by cases z⟩
            refine ⟨_, rfl, rfl, rfl, d, Web.fN, V.int (-22), rfl, upd_same, by decide +kernel, (by show 1 ≤ sizeLine; decide), fun q hq => k _ q ?_⟩
            rw [rolls_bad (Or.inr (Or.inr (Or.inr hO)))]
            exact upd_same
        · refine ⟨true, T.te, fun _ a0 ha0 => ?_, fun z => by cases z⟩
          refine ⟨_, rfl, rfl, rfl, d, Web.fN, V.int (-22), rfl, upd_same, by decide +kernel, (by show 1 ≤ sizeLine; decide), fun q hq => k _ q ?_⟩
          rw [rolls_bad (Or.inr (Or.inr (Or.inl hU)))]
          exact upd_same
      · refine ⟨true, T.te, fun _ a0 ha0 => ?_, fun z => by cases z⟩
        refine ⟨_, rfl, rfl, rfl, d, Web.fN, V.int (-22), rfl, upd_same, by decide +kernel, (by show 1 ≤ sizeLine; decide), fun q hq => k _ q ?_⟩
        rw [rolls_bad (Or.inr (Or.inl hL))]
        exact upd_same
    · refine ⟨true, T.te, fun _ a0 ha0 => ?_, fun z => by cases z⟩
      refine ⟨_, rfl, rfl, rfl, d, Web.fN, V.int (-22), rfl, hd, by decide +kernel, (by show 1 ≤ sizeLine; decide), fun q hq => k _ q ?_⟩
      rw [rolls_bad (Or.inl hw)]
      exact upd_same
end
/-! ### the end -/
/-- an error of the class at S is what «except S» names -/
theorem exm_self {K : PySem.W.Frag} {S : Addr} (h1 : PySem.W.subIn K (.ref S) (.type "BaseException") = some true) (h2 : PySem.W.isClsIn K S = true) (h3 : PySem.W.typeIn K (.ref S) = some (.type "type")) (h4 : PySem.W.subIn K (.ref S) (.ref S) = some true) :
    PySem.W.exmOne K (.ref S) (.ref S) = some true := by
  have e1 : (PySem.W.subIn K (.ref S) (.type "BaseException") == some true) = true := by rw [h1] <;> rfl
  have e2 : ((PySem.W.clsIn K S).isSome && PySem.W.typeIn K (.ref S) == some (.type "type")) = true := by
    have h2' : (PySem.W.clsIn K S).isSome = true := h2
    rw [h2', h3] <;> rfl
  show (if (PySem.W.subIn K (.ref S) (.type "BaseException") == some true) = true then (if ((PySem.W.clsIn K S).isSome && PySem.W.typeIn K (.ref S) == some (.type "type")) = true then PySem.W.subIn K (.ref S) (.ref S) else none) else none) = some true
  rw [if_pos e1, if_pos e2]
  exact h4
theorem all_mk {P : Program} {w : World} {K : PySem.W.Frag} {h : Heap} {mg : Str → Option Value} {fa C fI f0 f1 f2 f3 f4 f5 f6 f7 f8 f9 f10 f11 f12 : Addr} (X : K.In h) (G : h.Ns mainGlobals mg) (hfa : mg "rolls" = some (.ref fa))
    {nm qn : Str} {N : Addr} {bs : List Value} {sn : List Str} {sub : List Value} {ab : Bool} {col : Option Bool} {dd : Option Addr} {m0 m1 m2 m3 m5 : Option Value}
    {odI anI od0 an0 od1 an1 od2 an2 od3 an3 od4 an4 od5 an5 od6 an6 od7 an7 od8 an8 od9 an9 od10 an10 od11 an11 od12 an12 : Option Addr} {slI sl0 sl1 sl2 sl3 sl4 sl5 sl6 sl7 sl8 sl9 sl10 sl11 sl12 : Array (Option Value)} {ocI kVI dcI pmI cdI ctI oc0 kV0 dc0 pm0 cd0 ct0 oc1 kV1 dc1 pm1 cd1 ct1 oc2 kV2 dc2 pm2 cd2 ct2 oc3 kV3 dc3 pm3 cd3 ct3 oc4 kV4 dc4 pm4 cd4 ct4 oc5 kV5 dc5 pm5 cd5 ct5 oc6 kV6 dc6 pm6 cd6 ct6 oc7 kV7 dc7 pm7 cd7 ct7 oc8 kV8 dc8 pm8 cd8 ct8 oc9 kV9 dc9 pm9 cd9 ct9 oc10 kV10 dc10 pm10 cd10 ct10 oc11 kV11 dc11 pm11 cd11 ct11 oc12 kV12 dc12 pm12 cd12 ct12 : Value} {t_NOT_SO t_MOST_SECTIONS t_MOST_MEASURED t_MOST_RUN t_MOST_JOINS t_MOST_ROLL : Tok}
    (aC : PySem.W.nsIn K mainGlobals "Refused" = some (some (.ref C)))
    (xL : K.lookup C = some (excClassObj nm qn C N bs [.type "ValueError", .type "Exception", .type "BaseException", .type "object"] true sn sub ab col dd m0 m1 m2 m3 m5 "ValueError.__new__"))
    (sa : PySem.W.findIn K (.ref C) "__setattr__" = some (some (.builtin "object.__setattr__")))
    (ga : PySem.W.findIn K (.ref C) "__getattribute__" = some (some (.builtin "BaseException.__getattribute__")))
    (gg : PySem.W.findIn K (.ref C) "__getattr__" = some none)
    (nb : PySem.W.findIn K (.ref C) "number" = some none)
    (aI : PySem.W.findIn K (.ref C) "__init__" = some (some (.ref fI)))
    (tI : PySem.W.typeIn K (.ref fI) = some (.type "function"))
    (lI : K.lookup fI = some ⟨ocI, odI, .func (PySem.W.fnOf "__init__" "Refused.__init__" (defArgs sInit) (defBody sInit) (defScope sInit) .none kVI dcI pmI anI cdI ctI), slI⟩)
    (cI : PySem.W.codeIn K cdI "Refused.__init__" = true)
    (kI : PySem.W.keepIn K (.ref fI) = true)
    (kC : PySem.W.keepIn K (.ref C) = true)
    (eC : PySem.W.subIn K (.ref C) (.type "BaseException") = some true)
    (tC : PySem.W.typeIn K (.ref C) = some (.type "type"))
    (hC : PySem.W.hasDictIn K C = true)
    (iC : PySem.W.isClsIn K C = true)
    (sC : PySem.W.subIn K (.ref C) (.ref C) = some true)
    (zV : PySem.W.nsIn K mainGlobals "ValueError" = some none)
    (vV : PySem.W.findCls K (.type "ValueError") (.type "type") "__init__" = some (.val (.builtin "ValueError.__init__")))
    (a_NOT_SO : PySem.W.nsIn K mainGlobals "NOT_SO" = some (some (.int (-22) t_NOT_SO)))
    (a_MOST_SECTIONS : PySem.W.nsIn K mainGlobals "MOST_SECTIONS" = some (some (.int (40) t_MOST_SECTIONS)))
    (a_MOST_MEASURED : PySem.W.nsIn K mainGlobals "MOST_MEASURED" = some (some (.int (1000) t_MOST_MEASURED)))
    (a_MOST_RUN : PySem.W.nsIn K mainGlobals "MOST_RUN" = some (some (.int (20) t_MOST_RUN)))
    (a_MOST_JOINS : PySem.W.nsIn K mainGlobals "MOST_JOINS" = some (some (.int (5) t_MOST_JOINS)))
    (a_MOST_ROLL : PySem.W.nsIn K mainGlobals "MOST_ROLL" = some (some (.int (40) t_MOST_ROLL)))
    (z_len : PySem.W.nsIn K mainGlobals "len" = some none)
    (z_any : PySem.W.nsIn K mainGlobals "any" = some none)
    (z_all : PySem.W.nsIn K mainGlobals "all" = some none)
    (z_max : PySem.W.nsIn K mainGlobals "max" = some none)
    (z_range : PySem.W.nsIn K mainGlobals "range" = some none)
    (z_enumerate : PySem.W.nsIn K mainGlobals "enumerate" = some none)
    (a0 : PySem.W.nsIn K mainGlobals "refuse_where" = some (some (.ref f0)))
    (l0 : K.lookup f0 = some ⟨oc0, od0, .func (PySem.W.fnOf "refuse_where" "refuse_where" (defArgs sRef) (defBody sRef) (defScope sRef) .none kV0 dc0 pm0 an0 cd0 ct0), sl0⟩)
    (c0 : PySem.W.codeIn K cd0 "refuse_where" = true)
    (k0 : PySem.W.keepIn K (.ref f0) = true)
    (a1 : PySem.W.nsIn K mainGlobals "look_web" = some (some (.ref f1)))
    (l1 : K.lookup f1 = some ⟨oc1, od1, .func (PySem.W.fnOf "look_web" "look_web" (defArgs sLookWeb) (defBody sLookWeb) (defScope sLookWeb) .none kV1 dc1 pm1 an1 cd1 ct1), sl1⟩)
    (c1 : PySem.W.codeIn K cd1 "look_web" = true)
    (k1 : PySem.W.keepIn K (.ref f1) = true)
    (a2 : PySem.W.nsIn K mainGlobals "look_limits" = some (some (.ref f2)))
    (l2 : K.lookup f2 = some ⟨oc2, od2, .func (PySem.W.fnOf "look_limits" "look_limits" (defArgs sLookLimits) (defBody sLookLimits) (defScope sLookLimits) .none kV2 dc2 pm2 an2 cd2 ct2), sl2⟩)
    (c2 : PySem.W.codeIn K cd2 "look_limits" = true)
    (k2 : PySem.W.keepIn K (.ref f2) = true)
    (a3 : PySem.W.nsIn K mainGlobals "look_run" = some (some (.ref f3)))
    (l3 : K.lookup f3 = some ⟨oc3, od3, .func (PySem.W.fnOf "look_run" "look_run" (defArgs sLookRun) (defBody sLookRun) (defScope sLookRun) .none kV3 dc3 pm3 an3 cd3 ct3), sl3⟩)
    (c3 : PySem.W.codeIn K cd3 "look_run" = true)
    (k3 : PySem.W.keepIn K (.ref f3) = true)
    (a4 : PySem.W.nsIn K mainGlobals "look_roll" = some (some (.ref f4)))
    (l4 : K.lookup f4 = some ⟨oc4, od4, .func (PySem.W.fnOf "look_roll" "look_roll" (defArgs sLookRoll) (defBody sLookRoll) (defScope sLookRoll) .none kV4 dc4 pm4 an4 cd4 ct4), sl4⟩)
    (c4 : PySem.W.codeIn K cd4 "look_roll" = true)
    (k4 : PySem.W.keepIn K (.ref f4) = true)
    (a5 : PySem.W.nsIn K mainGlobals "good_sections" = some (some (.ref f5)))
    (l5 : K.lookup f5 = some ⟨oc5, od5, .func (PySem.W.fnOf "good_sections" "good_sections" (defArgs sGood) (defBody sGood) (defScope sGood) .none kV5 dc5 pm5 an5 cd5 ct5), sl5⟩)
    (c5 : PySem.W.codeIn K cd5 "good_sections" = true)
    (k5 : PySem.W.keepIn K (.ref f5) = true)
    (a6 : PySem.W.nsIn K mainGlobals "stretches" = some (some (.ref f6)))
    (l6 : K.lookup f6 = some ⟨oc6, od6, .func (PySem.W.fnOf "stretches" "stretches" (defArgs sStre) (defBody sStre) (defScope sStre) .none kV6 dc6 pm6 an6 cd6 ct6), sl6⟩)
    (c6 : PySem.W.codeIn K cd6 "stretches" = true)
    (k6 : PySem.W.keepIn K (.ref f6) = true)
    (a7 : PySem.W.nsIn K mainGlobals "long_stretches" = some (some (.ref f7)))
    (l7 : K.lookup f7 = some ⟨oc7, od7, .func (PySem.W.fnOf "long_stretches" "long_stretches" (defArgs sLong) (defBody sLong) (defScope sLong) .none kV7 dc7 pm7 an7 cd7 ct7), sl7⟩)
    (c7 : PySem.W.codeIn K cd7 "long_stretches" = true)
    (k7 : PySem.W.keepIn K (.ref f7) = true)
    (a8 : PySem.W.nsIn K mainGlobals "can_cut" = some (some (.ref f8)))
    (l8 : K.lookup f8 = some ⟨oc8, od8, .func (PySem.W.fnOf "can_cut" "can_cut" (defArgs sCan) (defBody sCan) (defScope sCan) .none kV8 dc8 pm8 an8 cd8 ct8), sl8⟩)
    (c8 : PySem.W.codeIn K cd8 "can_cut" = true)
    (k8 : PySem.W.keepIn K (.ref f8) = true)
    (a9 : PySem.W.nsIn K mainGlobals "most_behind" = some (some (.ref f9)))
    (l9 : K.lookup f9 = some ⟨oc9, od9, .func (PySem.W.fnOf "most_behind" "most_behind" (defArgs sBehind) (defBody sBehind) (defScope sBehind) .none kV9 dc9 pm9 an9 cd9 ct9), sl9⟩)
    (c9 : PySem.W.codeIn K cd9 "most_behind" = true)
    (k9 : PySem.W.keepIn K (.ref f9) = true)
    (a10 : PySem.W.nsIn K mainGlobals "first_of_most" = some (some (.ref f10)))
    (l10 : K.lookup f10 = some ⟨oc10, od10, .func (PySem.W.fnOf "first_of_most" "first_of_most" (defArgs sFirst) (defBody sFirst) (defScope sFirst) .none kV10 dc10 pm10 an10 cd10 ct10), sl10⟩)
    (c10 : PySem.W.codeIn K cd10 "first_of_most" = true)
    (k10 : PySem.W.keepIn K (.ref f10) = true)
    (a11 : PySem.W.nsIn K mainGlobals "begins_of_rolls" = some (some (.ref f11)))
    (l11 : K.lookup f11 = some ⟨oc11, od11, .func (PySem.W.fnOf "begins_of_rolls" "begins_of_rolls" (defArgs sBegins) (defBody sBegins) (defScope sBegins) .none kV11 dc11 pm11 an11 cd11 ct11), sl11⟩)
    (c11 : PySem.W.codeIn K cd11 "begins_of_rolls" = true)
    (k11 : PySem.W.keepIn K (.ref f11) = true)
    (a12 : PySem.W.nsIn K mainGlobals "rolls" = some (some (.ref f12)))
    (l12 : K.lookup f12 = some ⟨oc12, od12, .func (PySem.W.fnOf "rolls" "rolls" (defArgs sMain) (defBody sMain) (defScope sMain) .none kV12 dc12 pm12 an12 cd12 ct12), sl12⟩)
    (c12 : PySem.W.codeIn K cd12 "rolls" = true)
    (k12 : PySem.W.keepIn K (.ref f12) = true)
    : ∃ fd : FuncData, (∀ (s : Shared) (us : List Value), us.length = (["lo", "hi", "p", "j", "n", "sections"] : List Str).length → BindsTo s fd ⟨us, []⟩ ((["lo", "hi", "p", "j", "n", "sections"] : List Str).zip us)) ∧ ∀ base : Heap, K.In base → base.Ns mainGlobals mg → FnOk P w K mg base CX0 5 fa fd ["lo", "hi", "p", "j", "n", "sections"] (spMain K) := by
  have e := hfa.symm.trans (PySem.W.mg_of X G a12)
  cases e
  have T : Txt K mg C fI :=
    { gC := PySem.W.mg_of X G aC, ox := ⟨⟨nm, qn, N, bs, _, sn, sub, ab, col, dd, m0, m1, m2, m3, m5, xL, by decide +kernel⟩, sa, eC, tC, kC⟩, xf := ⟨ga, gg, eC, hC⟩, nN := nb, te := exm_self eC iC tC sC, iC := aI, tI := tI,
      gV := PySem.W.mg_none_of X G zV, vV := vV, gN := ⟨_, PySem.W.mg_of X G a_NOT_SO⟩, gS := ⟨_, PySem.W.mg_of X G a_MOST_SECTIONS⟩, gM := ⟨_, PySem.W.mg_of X G a_MOST_MEASURED⟩, gU := ⟨_, PySem.W.mg_of X G a_MOST_RUN⟩, gJ := ⟨_, PySem.W.mg_of X G a_MOST_JOINS⟩, gL := ⟨_, PySem.W.mg_of X G a_MOST_ROLL⟩, len := PySem.W.mg_none_of X G z_len, any := PySem.W.mg_none_of X G z_any, all := PySem.W.mg_none_of X G z_all, max := PySem.W.mg_none_of X G z_max, range := PySem.W.mg_none_of X G z_range, enumerate := PySem.W.mg_none_of X G z_enumerate }
  have FI := fun_mk (st := sInit) lI cI kI
  have bI := FI.binds (ps := ["self", "number"]) fun _ _ _ _ _ _ us hl => match us, hl with | [_, _], _ => rfl
  have F0 := fun_mk (st := sRef) l0 c0 k0
  have b0 := F0.binds (ps := ["fact"]) fun _ _ _ _ _ _ us hl => match us, hl with | [_], _ => rfl
  have F1 := fun_mk (st := sLookWeb) l1 c1 k1
  have b1 := F1.binds (ps := ["sections"]) fun _ _ _ _ _ _ us hl => match us, hl with | [_], _ => rfl
  have F2 := fun_mk (st := sLookLimits) l2 c2 k2
  have b2 := F2.binds (ps := ["low", "high"]) fun _ _ _ _ _ _ us hl => match us, hl with | [_, _], _ => rfl
  have F3 := fun_mk (st := sLookRun) l3 c3 k3
  have b3 := F3.binds (ps := ["least"]) fun _ _ _ _ _ _ us hl => match us, hl with | [_], _ => rfl
  have F4 := fun_mk (st := sLookRoll) l4 c4 k4
  have b4 := F4.binds (ps := ["joins", "length"]) fun _ _ _ _ _ _ us hl => match us, hl with | [_, _], _ => rfl
  have F5 := fun_mk (st := sGood) l5 c5 k5
  have b5 := F5.binds (ps := ["low", "high", "sections"]) fun _ _ _ _ _ _ us hl => match us, hl with | [_, _, _], _ => rfl
  have F6 := fun_mk (st := sStre) l6 c6 k6
  have b6 := F6.binds (ps := ["numbers"]) fun _ _ _ _ _ _ us hl => match us, hl with | [_], _ => rfl
  have F7 := fun_mk (st := sLong) l7 c7 k7
  have b7 := F7.binds (ps := ["low", "high", "least", "sections"]) fun _ _ _ _ _ _ us hl => match us, hl with | [_, _, _, _], _ => rfl
  have F8 := fun_mk (st := sCan) l8 c8 k8
  have b8 := F8.binds (ps := ["usable", "at", "least", "joins", "length"]) fun _ _ _ _ _ _ us hl => match us, hl with | [_, _, _, _, _], _ => rfl
  have F9 := fun_mk (st := sBehind) l9 c9 k9
  have b9 := F9.binds (ps := ["fits", "length"]) fun _ _ _ _ _ _ us hl => match us, hl with | [_, _], _ => rfl
  have F10 := fun_mk (st := sFirst) l10 c10 k10
  have b10 := F10.binds (ps := ["fits", "length"]) fun _ _ _ _ _ _ us hl => match us, hl with | [_, _], _ => rfl
  have F11 := fun_mk (st := sBegins) l11 c11 k11
  have b11 := F11.binds (ps := ["usable", "least", "joins", "length"]) fun _ _ _ _ _ _ us hl => match us, hl with | [_, _, _, _], _ => rfl
  have F12 := fun_mk (st := sMain) l12 c12 k12
  refine ⟨PySem.W.fnOf "rolls" "rolls" (defArgs sMain) (defBody sMain) (defScope sMain) .none kV12 dc12 pm12 an12 cd12 ct12, fun s us hu => match us, hu with | [_, _, _, _, _, _], _ => .of_eq rfl, fun base _ _ => ?_⟩
  have h_refuse_where : Has P w K mg base (L2.CX P w) 3 "refuse_where" ["fact"] (spRef C) := ⟨_, _, ok_ref F0 T FI bI, b0, PySem.W.mg_of X G a0, k0⟩
  have h_look_web : Has P w K mg base (L2.CX P w) 4 "look_web" ["sections"] (spLookWeb K C) := ⟨_, _, ok_lookWeb F1 T h_refuse_where, b1, PySem.W.mg_of X G a1, k1⟩
  have h_look_limits : Has P w K mg base (L2.CX P w) 4 "look_limits" ["low", "high"] (spLookLimits C) := ⟨_, _, ok_lookLimits F2 T h_refuse_where, b2, PySem.W.mg_of X G a2, k2⟩
  have h_look_run : Has P w K mg base (L2.CX P w) 4 "look_run" ["least"] (spLookRun C) := ⟨_, _, ok_lookRun F3 T h_refuse_where, b3, PySem.W.mg_of X G a3, k3⟩
  have h_look_roll : Has P w K mg base (L2.CX P w) 4 "look_roll" ["joins", "length"] (spLookRoll C) := ⟨_, _, ok_lookRoll F4 T h_refuse_where, b4, PySem.W.mg_of X G a4, k4⟩
  have h_good_sections : Has P w K mg base CX0 1 "good_sections" ["low", "high", "sections"] (spGood K) := ⟨_, _, ok_goodS F5 T, b5, PySem.W.mg_of X G a5, k5⟩
  have h_stretches : Has P w K mg base CX0 1 "stretches" ["numbers"] (spStre K) := ⟨_, _, ok_stre F6 T, b6, PySem.W.mg_of X G a6, k6⟩
  have h_long_stretches : Has P w K mg base CX0 2 "long_stretches" ["low", "high", "least", "sections"] (spLong K) := ⟨_, _, ok_long F7 T h_good_sections h_stretches, b7, PySem.W.mg_of X G a7, k7⟩
  have h_can_cut : Has P w K mg base CX0 2 "can_cut" ["usable", "at", "least", "joins", "length"] (spCan K) := ⟨_, _, ok_can F8 T h_stretches, b8, PySem.W.mg_of X G a8, k8⟩
  have h_most_behind : Has P w K mg base CX0 1 "most_behind" ["fits", "length"] (spBehind K) := ⟨_, _, ok_behind F9 T, b9, PySem.W.mg_of X G a9, k9⟩
  have h_first_of_most : Has P w K mg base CX0 2 "first_of_most" ["fits", "length"] (spFirst K) := ⟨_, _, ok_first F10 T h_most_behind, b10, PySem.W.mg_of X G a10, k10⟩
  have h_begins_of_rolls : Has P w K mg base CX0 3 "begins_of_rolls" ["usable", "least", "joins", "length"] (spBegins K) := ⟨_, _, ok_begins F11 T h_can_cut h_first_of_most, b11, PySem.W.mg_of X G a11, k11⟩
  exact ok_main F12 T h_look_web h_look_limits h_look_run h_look_roll h_long_stretches h_begins_of_rolls
end Web
open PySem PySem.W PyProof.Rows
set_option maxRecDepth 100000 in
set_option maxHeartbeats 8000000 in
theorem PySem.Challenge.cw_paperweb_s04_rolls_holds : PySem.Challenge.rw_paperweb_s04_rolls.Holds := by
  w_on; k_headS; (case hw => exact ⟨[.int 0, .int 0, .int 0, .int 0, .int 0, .list []], by decide +kernel, by decide +kernel⟩)
  k_fillS
  refine L2.walk_specK (r := PySem.Challenge.rw_paperweb_s04_rolls) (k := 5) (CX := L2.CX0) (ps := ["lo", "hi", "p", "j", "n", "sections"]) (sp := Web.spMain) (by decide +kernel) rfl rfl ⟨rfl, by decide, by decide⟩ (fun w h Y => PySem.W.kIn_of Y) ?F ?S (fun _ _ _ _ z => z)
  case F =>
    intro w mg fa h Y KX G hmg
    refine' Web.all_mk KX G hmg ?aC ?xL ?sa ?ga ?gg ?nb ?aI ?tI ?lI ?cI ?kI ?kC ?eC ?tC ?hC ?iC ?sC ?zV ?vV ?a_NOT_SO ?a_MOST_SECTIONS ?a_MOST_MEASURED ?a_MOST_RUN ?a_MOST_JOINS ?a_MOST_ROLL ?z_len ?z_any ?z_all ?z_max ?z_range ?z_enumerate ?a0 ?l0 ?c0 ?k0 ?a1 ?l1 ?c1 ?k1 ?a2 ?l2 ?c2 ?k2 ?a3 ?l3 ?c3 ?k3 ?a4 ?l4 ?c4 ?k4 ?a5 ?l5 ?c5 ?k5 ?a6 ?l6 ?c6 ?k6 ?a7 ?l7 ?c7 ?k7 ?a8 ?l8 ?c8 ?k8 ?a9 ?l9 ?c9 ?k9 ?a10 ?l10 ?c10 ?k10 ?a11 ?l11 ?c11 ?k11 ?a12 ?l12 ?c12 ?k12
    case aC => k_is
    case xL => k_is
    case sa => k_is
    case ga => k_is
    case gg => k_is
    case nb => k_is
    case aI => k_is
    case tI => k_is
    case lI => k_is
    case cI => k_is
    case kI => k_is
    case kC => k_is
    case eC => k_is
    case tC => k_is
    case hC => k_is
    case iC => k_is
    case sC => first | rfl | k_is
    case zV => k_is
    case vV => k_is
    case a_NOT_SO => k_is
    case a_MOST_SECTIONS => k_is
    case a_MOST_MEASURED => k_is
    case a_MOST_RUN => k_is
    case a_MOST_JOINS => k_is
    case a_MOST_ROLL => k_is
    case z_len => k_is
    case z_any => k_is
    case z_all => k_is
    case z_max => k_is
    case z_range => k_is
    case z_enumerate => k_is
    case a0 => k_is
    case l0 => k_is
    case c0 => k_is
    case k0 => k_is
    case a1 => k_is
    case l1 => k_is
    case c1 => k_is
    case k1 => k_is
    case a2 => k_is
    case l2 => k_is
    case c2 => k_is
    case k2 => k_is
    case a3 => k_is
    case l3 => k_is
    case c3 => k_is
    case k3 => k_is
    case a4 => k_is
    case l4 => k_is
    case c4 => k_is
    case k4 => k_is
    case a5 => k_is
    case l5 => k_is
    case c5 => k_is
    case k5 => k_is
    case a6 => k_is
    case l6 => k_is
    case c6 => k_is
    case k6 => k_is
    case a7 => k_is
    case l7 => k_is
    case c7 => k_is
    case k7 => k_is
    case a8 => k_is
    case l8 => k_is
    case c8 => k_is
    case k8 => k_is
    case a9 => k_is
    case l9 => k_is
    case c9 => k_is
    case k9 => k_is
    case a10 => k_is
    case l10 => k_is
    case c10 => k_is
    case k10 => k_is
    case a11 => k_is
    case l11 => k_is
    case c11 => k_is
    case k11 => k_is
    case a12 => k_is
    case l12 => k_is
    case c12 => k_is
    case k12 => k_is
  case S =>
    intro K H xs a hO hwi hask hx
    obtain ⟨lo, hi, p, j, n, ns, u⟩ := a
    cases hx with
    | cons h1 hx =>
    cases hx with
    | cons h2 hx =>
    cases hx with
    | cons h3 hx =>
    cases hx with
    | cons h4 hx =>
    cases hx with
    | cons h5 hx =>
    cases hx with
    | cons h6 hx =>
      cases hx
      cases h1
      cases h2
      cases h3
      cases h4
      cases h5
      cases h6 with
      | lst hs ha =>
        have e := L2.ints_dw ns _ ha
        subst e
        rename Addr => b
        have q : (Codec.inInt 0 4294967295 lo && (Codec.inInt 0 4294967295 hi && (Codec.inInt 0 4294967295 p && (Codec.inInt 0 4294967295 j && (Codec.inInt 0 4294967295 n && ((Codec.inLen 0 44 ns && ns.all (Codec.inInt 0 4294967295)) && true)))))) = true := hwi
        rw [Bool.and_eq_true, Bool.and_eq_true, Bool.and_eq_true, Bool.and_eq_true, Bool.and_eq_true, Bool.and_eq_true, Bool.and_eq_true] at q
        obtain ⟨q1, q2, q5, q6, q7, ⟨q3, q4⟩, _⟩ := q
        have hn := Web.nats_map (ns := ns) fun x hx => (Codec.inInt_iff.mp (List.all_eq_true.mp q4 x hx)).1
        have hs' : L2.SqL K H b ((ns.map Int.toNat).map Web.vN) := by
          rw [Web.map_vN, ← hn]
          exact hs
        have e1 := Web.vN_of (Codec.inInt_iff.mp q1).1
        have e2 := Web.vN_of (Codec.inInt_iff.mp q2).1
        have e3 := Web.vN_of (Codec.inInt_iff.mp q5).1
        have e4 := Web.vN_of (Codec.inInt_iff.mp q6).1
        have e5 := Web.vN_of (Codec.inInt_iff.mp q7).1
        refine ⟨lo.toNat, hi.toNat, p.toNat, j.toNat, n.toNat, b, ns.map Int.toNat, ?_, hs', by rw [List.length_map]; exact (Codec.inNat_iff.mp q3).2, fun H' p hp => .lst (L2.SqL.of hp) (L2.dw_ints _)⟩
        show [L2.V.int lo, L2.V.int hi, L2.V.int p, L2.V.int j, L2.V.int n, L2.V.ref b] = _
        rw [e1, e2, e3, e4, e5]
#print axioms PySem.Challenge.cw_paperweb_s04_rolls_holds
