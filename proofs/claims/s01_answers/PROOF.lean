import PyProof.Rows.All
import Wide.All
import OpenK.AllK
import Wide.FinOn
import Open.SpecLaws
import KE.OsHead
import KE.OsGo
import HandS.ForSpec
import HandS.ForMost
import HandS.TupLen
import HandS.SetFor
import HandS.Walk
import PySem.Challenge.RW_giveortake_s01_answers
set_option Elab.async false
set_option linter.all false
set_option maxRecDepth 100000
set_option maxHeartbeats 4000000
/-! ## GtReach -/
namespace Gt
open Rc89
/-! reach: walks of a machine by what the other does -/
structure Ok (A : Machine) : Prop where
  pos : 1 ≤ A.length
  most : A.length ≤ 16
  bits : ∀ x ∈ A, x.1 ≤ 1
  n0 : ∀ x ∈ A, x.2.1 < A.length
  n1 : ∀ x ∈ A, x.2.2 < A.length
theorem ok_of_fine {A : Machine} (h : fine A = true) : Ok A := by
  simp only [fine, Bool.and_eq_true, decide_eq_true_eq, List.all_eq_true] at h
  exact ⟨h.1, h.2.1, fun x hx => (h.2.2 x hx).1, fun x hx => (h.2.2 x hx).2.1, fun x hx => (h.2.2 x hx).2.2⟩
theorem getD_mem_or {A : Machine} (s : Nat) : A.getD s (0, 0, 0) ∈ A ∨ A.getD s (0, 0, 0) = (0, 0, 0) := by
  by_cases h : s < A.length
  · left
    rw [List.getD_eq_getElem?_getD, List.getElem?_eq_getElem h]
    exact List.getElem_mem h
  · right
    rw [List.getD_eq_getElem?_getD, List.getElem?_eq_none (by omega)]
    rfl
theorem Ok.act_le {A : Machine} (o : Ok A) (s : Nat) : act A s ≤ 1 := by
  unfold act
  rcases getD_mem_or (A := A) s with h | h
  · exact o.bits _ h
  · rw [h]; decide
theorem Ok.next_lt {A : Machine} (o : Ok A) (s x : Nat) : next A s x < A.length := by
  unfold next
  have p := o.pos
  rcases getD_mem_or (A := A) s with h | h
  · split
    · exact o.n0 _ h
    · exact o.n1 _ h
  · rw [h]; split <;> exact p
/-- the state behind some deeds of the other -/
def run (A : Machine) : Nat → List Nat → Nat
  | s, [] => s
  | s, d :: ds => run A (next A s d) ds
theorem run_append (A : Machine) : ∀ (s : Nat) (a b : List Nat), run A s (a ++ b) = run A (run A s a) b
  | _, [], _ => rfl
  | s, d :: a, b => run_append A (next A s d) a b
theorem Ok.run_lt {A : Machine} (o : Ok A) : ∀ (ds : List Nat) (s : Nat), s < A.length → run A s ds < A.length
  | [], _, h => h
  | d :: ds, s, _ => o.run_lt ds _ (o.next_lt s d)
def R (A : Machine) (s : Nat) : Prop := ∃ ds, run A 0 ds = s
theorem R.zero (A : Machine) : R A 0 := ⟨[], rfl⟩
theorem R.next {A : Machine} {s : Nat} (h : R A s) (x : Nat) : R A (next A s x) := by
  obtain ⟨ds, e⟩ := h
  refine ⟨ds ++ [x], ?_⟩
  rw [run_append, e]; rfl
theorem R.run {A : Machine} {s : Nat} (h : R A s) (ds : List Nat) : R A (run A s ds) := by
  obtain ⟨es, e⟩ := h
  exact ⟨es ++ ds, by rw [run_append, e]⟩
theorem R.lt {A : Machine} (o : Ok A) {s : Nat} (h : R A s) : s < A.length := by
  obtain ⟨ds, rfl⟩ := h
  exact o.run_lt ds 0 o.pos
/-- a list that is no Nodup has an item twice -/
theorem twice {α : Type} [DecidableEq α] : ∀ (l : List α), ¬ l.Nodup → ∃ (i j : Nat), i < j ∧ ∃ x, l[i]? = some x ∧ l[j]? = some x
  | [], h => absurd List.nodup_nil h
  | a :: l, h => by
    by_cases m : a ∈ l
    · obtain ⟨j, hj⟩ := List.getElem?_of_mem m
      exact ⟨0, j + 1, by omega, a, rfl, by simpa using hj⟩
    · have h2 : ¬ l.Nodup := fun q => h (List.nodup_cons.mpr ⟨m, q⟩)
      obtain ⟨i, j, hij, x, hi, hj⟩ := twice l h2
      exact ⟨i + 1, j + 1, by omega, x, by simpa using hi, by simpa using hj⟩
theorem pigeon {α : Type} [DecidableEq α] {l ks : List α} (hs : ∀ x ∈ l, x ∈ ks) (hl : ks.length < l.length) : ∃ (i j : Nat), i < j ∧ ∃ x, l[i]? = some x ∧ l[j]? = some x := by
  apply twice
  intro nd
  have := nd.length_le_of_subset (fun x h => hs x h)
  omega
/-- a long walk comes round: a part of it can be left out -/
theorem pump {A : Machine} {ks : List Nat} {s : Nat} (hk : ∀ ds, run A s ds ∈ ks) {ds : List Nat} (hl : ks.length ≤ ds.length) :
    ∃ a b c, ds = a ++ (b ++ c) ∧ b ≠ [] ∧ run A s (a ++ b) = run A s a ∧ a.length + b.length ≤ ks.length := by
  have hp := pigeon (l := (List.range (ks.length + 1)).map fun i => run A s (ds.take i)) (ks := ks)
    (by intro x hx; rw [List.mem_map] at hx; obtain ⟨i, _, rfl⟩ := hx; exact hk _) (by rw [List.length_map, List.length_range]; omega)
  obtain ⟨i, j, hij, x, hi, hj⟩ := hp
  have hjl : j < ks.length + 1 := by
    have := (List.getElem?_eq_some_iff.mp hj).1
    rw [List.length_map, List.length_range] at this
    exact this
  rw [List.getElem?_map, List.getElem?_range (by omega)] at hi hj
  have ei : run A s (ds.take i) = x := Option.some.inj hi
  have ej : run A s (ds.take j) = x := Option.some.inj hj
  have e1 : ds.take j = ds.take i ++ (ds.drop i).take (j - i) := by
    rw [← List.take_add]; congr 1; omega
  refine ⟨ds.take i, (ds.drop i).take (j - i), ds.drop j, ?_, ?_, ?_, ?_⟩
  · rw [← List.append_assoc, ← e1, List.take_append_drop]
  · intro h
    have h2 := congrArg List.length h
    rw [List.length_take, List.length_drop] at h2
    have : (([] : List Nat)).length = 0 := rfl
    omega
  · rw [← e1, ej, ei]
  · rw [List.length_take, List.length_take, List.length_drop]; omega
theorem short {A : Machine} {ks : List Nat} {s t : Nat} (hk : ∀ ds, run A s ds ∈ ks) : ∀ (n : Nat) (ds : List Nat), ds.length ≤ n → run A s ds = t → ∃ es, es.length < ks.length ∧ run A s es = t := by
  intro n
  induction n with
  | zero =>
    intro ds hn e
    by_cases c : ds.length < ks.length
    · exact ⟨ds, c, e⟩
    · obtain ⟨a, b, c', e1, nb, _, _⟩ := pump hk (ds := ds) (by omega)
      have h3 : ds.length = a.length + (b.length + c'.length) := by rw [e1, List.length_append, List.length_append]
      have h4 : 0 < b.length := by cases b with | nil => exact absurd rfl nb | cons _ _ => simp
      omega
  | succ n ih =>
    intro ds hn e
    by_cases c : ds.length < ks.length
    · exact ⟨ds, c, e⟩
    · obtain ⟨a, b, c', e1, nb, er, _⟩ := pump hk (ds := ds) (by omega)
      have h4 : 0 < b.length := by cases b with | nil => exact absurd rfl nb | cons _ _ => simp
      refine ih (a ++ c') ?_ ?_
      · have h3 : ds.length = a.length + (b.length + c'.length) := by rw [e1, List.length_append, List.length_append]
        rw [List.length_append]; omega
      · rw [← e, e1, run_append, ← er, ← run_append, List.append_assoc]
theorem within_mono (A : Machine) (k : Nat) : ∀ s, s ∈ within A k → s ∈ within A (k + 1) := by
  intro s h
  show s ∈ (within A k ++ (within A k).flatMap fun (s : Nat) => [next A s 0, next A s 1]).eraseDups
  rw [List.mem_eraseDups]
  exact List.mem_append_left _ h
theorem next_norm (A : Machine) (s d : Nat) : next A s d = next A s 0 ∨ next A s d = next A s 1 := by
  unfold next
  by_cases h : d = 0
  · left; simp [h]
  · right; simp [h]
theorem within_next (A : Machine) (k : Nat) {s : Nat} (h : s ∈ within A k) (d : Nat) : next A s d ∈ within A (k + 1) := by
  show next A s d ∈ (within A k ++ (within A k).flatMap fun (s : Nat) => [next A s 0, next A s 1]).eraseDups
  rw [List.mem_eraseDups]
  refine List.mem_append_right _ ?_
  rw [List.mem_flatMap]
  refine ⟨s, h, ?_⟩
  rcases next_norm A s d with e | e <;> rw [e] <;> simp
theorem within_run (A : Machine) : ∀ (ds : List Nat) (k s : Nat), s ∈ within A k → run A s ds ∈ within A (k + ds.length)
  | [], _, _, h => h
  | d :: ds, k, s, h => by
    have := within_run A ds (k + 1) (next A s d) (within_next A k h d)
    rw [List.length_cons, show k + (ds.length + 1) = k + 1 + ds.length by omega]
    exact this
theorem within_le (A : Machine) {s k : Nat} : ∀ (m : Nat), s ∈ within A k → s ∈ within A (k + m)
  | 0, h => h
  | m + 1, h => within_mono A (k + m) s (within_le A m h)
theorem within_R (A : Machine) : ∀ (k s : Nat), s ∈ within A k → R A s
  | 0, s, h => by
    have : s = 0 := by simpa [within] using h
    subst this; exact R.zero A
  | k + 1, s, h => by
    have h : s ∈ (within A k ++ (within A k).flatMap fun (s : Nat) => [next A s 0, next A s 1]).eraseDups := h
    rw [List.mem_eraseDups, List.mem_append, List.mem_flatMap] at h
    rcases h with h | ⟨u, hu, h⟩
    · exact within_R A k s h
    · have := within_R A k u hu
      simp at h
      rcases h with rfl | rfl
      · exact this.next 0
      · exact this.next 1
theorem mem_reached {A : Machine} (o : Ok A) (s : Nat) : s ∈ reached A ↔ R A s := by
  unfold reached
  simp only [List.mem_filter, List.mem_range, List.contains_iff_mem]
  constructor
  · rintro ⟨_, h⟩
    exact within_R A _ _ h
  · intro h
    refine ⟨h.lt o, ?_⟩
    obtain ⟨ds, e⟩ := h
    obtain ⟨es, hl, e2⟩ := short (A := A) (ks := List.range A.length) (s := 0) (t := s) (fun ds => List.mem_range.mpr (o.run_lt ds 0 o.pos)) ds.length ds (Nat.le_refl _) e
    rw [List.length_range] at hl
    have h0 : 0 ∈ within A 0 := by simp [within]
    have h1 := within_run A es 0 0 h0
    rw [e2] at h1
    have h2 := within_le A (A.length - (0 + es.length)) h1
    rw [show 0 + es.length + (A.length - (0 + es.length)) = A.length by omega] at h2
    exact h2
theorem nodup_reached (A : Machine) : (reached A).Nodup := by
  unfold reached
  exact List.nodup_range.filter _
/-- what the program's reached hands back -/
structure Rch (A : Machine) (ks : List Nat) : Prop where
  nd : ks.Nodup
  mem : ∀ s, s ∈ ks ↔ R A s
theorem Rch.spec {A : Machine} (o : Ok A) : Rch A (reached A) := ⟨nodup_reached A, mem_reached o⟩
theorem Rch.perm {A : Machine} {ks ls : List Nat} (h : Rch A ks) (g : Rch A ls) : ks.Perm ls := by
  rw [List.perm_ext_iff_of_nodup h.nd g.nd]
  intro a
  rw [h.mem, g.mem]
theorem Rch.len_le {A : Machine} {ks : List Nat} (h : Rch A ks) (o : Ok A) : ks.length ≤ A.length := by
  have := h.nd.length_le_of_subset (l₂ := List.range A.length) (fun s m => List.mem_range.mpr (((h.mem s).mp m).lt o))
  rwa [List.length_range] at this
theorem Rch.len_pos {A : Machine} {ks : List Nat} (h : Rch A ks) : 1 ≤ ks.length := by
  have := (h.mem 0).mpr (R.zero A)
  cases ks with
  | nil => simp at this
  | cons a l => simp
/-- the search: found so far, waiting -/
structure Dfs (A : Machine) (f w : List Nat) : Prop where
  nd : f.Nodup
  rf : ∀ s ∈ f, R A s
  rw : ∀ s ∈ w, R A s
  zero : 0 ∈ f ∨ 0 ∈ w
  cl : ∀ s ∈ f, ∀ x, next A s x ∈ f ∨ next A s x ∈ w
theorem Dfs.start (A : Machine) : Dfs A [] [0] :=
  ⟨List.nodup_nil, by simp, by intro s h; simp at h; subst h; exact R.zero A, by simp, by simp⟩
theorem Dfs.known {A : Machine} {f w : List Nat} {s : Nat} (h : Dfs A f (w ++ [s])) (m : s ∈ f) : Dfs A f w := by
  refine ⟨h.nd, h.rf, fun u hu => h.rw u (List.mem_append_left _ hu), ?_, fun u hu x => ?_⟩
  · rcases h.zero with z | z
    · exact .inl z
    · rw [List.mem_append] at z
      rcases z with z | z
      · exact .inr z
      · simp at z; subst z; exact .inl m
  · rcases h.cl u hu x with z | z
    · exact .inl z
    · rw [List.mem_append] at z
      rcases z with z | z
      · exact .inr z
      · simp at z; rw [z]; exact .inl m
theorem Dfs.fresh {A : Machine} {f w : List Nat} {s : Nat} (h : Dfs A f (w ++ [s])) (m : ¬ s ∈ f) : Dfs A (f ++ [s]) (w ++ [next A s 0, next A s 1]) := by
  have hs : R A s := h.rw s (by simp)
  refine ⟨?_, ?_, ?_, ?_, ?_⟩
  · rw [List.nodup_append]
    refine ⟨h.nd, by simp, fun a ha b hb => ?_⟩
    simp at hb
    intro e; rw [hb] at e; rw [e] at ha; exact m ha
  · intro u hu
    rw [List.mem_append] at hu
    rcases hu with hu | hu
    · exact h.rf u hu
    · simp at hu; rw [hu]; exact hs
  · intro u hu
    rw [List.mem_append] at hu
    rcases hu with hu | hu
    · exact h.rw u (List.mem_append_left _ hu)
    · simp at hu
      rcases hu with rfl | rfl
      · exact hs.next 0
      · exact hs.next 1
  · rcases h.zero with z | z
    · exact .inl (List.mem_append_left _ z)
    · rw [List.mem_append] at z
      rcases z with z | z
      · exact .inr (List.mem_append_left _ z)
      · exact .inl (List.mem_append_right _ z)
  · intro u hu x
    rw [List.mem_append] at hu
    rcases hu with hu | hu
    · rcases h.cl u hu x with z | z
      · exact .inl (List.mem_append_left _ z)
      · rw [List.mem_append] at z
        rcases z with z | z
        · exact .inr (List.mem_append_left _ z)
        · exact .inl (List.mem_append_right _ z)
    · simp at hu; rw [hu]
      right
      refine List.mem_append_right _ ?_
      rcases next_norm A s x with e | e <;> rw [e] <;> simp
theorem Dfs.done {A : Machine} {f : List Nat} (h : Dfs A f []) : Rch A f := by
  refine ⟨h.nd, fun s => ⟨h.rf s, ?_⟩⟩
  have z : 0 ∈ f := by rcases h.zero with z | z; exact z; simp at z
  have cl : ∀ s ∈ f, ∀ x, next A s x ∈ f := fun s hs x => by rcases h.cl s hs x with z | z; exact z; simp at z
  rintro ⟨ds, rfl⟩
  have : ∀ (ds : List Nat) (s : Nat), s ∈ f → run A s ds ∈ f := by
    intro ds
    induction ds with
    | nil => intro s h; exact h
    | cons d ds ih => intro s h; exact ih _ (cl s h d)
  exact this ds 0 z
theorem Dfs.len {A : Machine} {f w : List Nat} (o : Ok A) (h : Dfs A f w) : f.length ≤ A.length := by
  have := h.nd.length_le_of_subset (l₂ := List.range A.length) (fun s m => List.mem_range.mpr ((h.rf s m).lt o))
  rwa [List.length_range] at this
end Gt
/-! ## GtRound -/
namespace Gt
open Rc89
/-! rounds of two machines -/
def stp (A B : Machine) (s : Nat × Nat) : Nat × Nat := (next A s.1 (act B s.2), next B s.2 (act A s.1))
def it (A B : Machine) : Nat → Nat × Nat → Nat × Nat
  | 0, s => s
  | k + 1, s => it A B k (stp A B s)
theorem it_succ (A B : Machine) : ∀ (k : Nat) (s : Nat × Nat), it A B (k + 1) s = stp A B (it A B k s)
  | 0, _ => rfl
  | k + 1, s => it_succ A B k (stp A B s)
theorem path_cons (A B : Machine) (k : Nat) (s : Nat × Nat) : path A B (k + 1) s = s :: path A B k (stp A B s) := rfl
theorem path_len (A B : Machine) : ∀ (k : Nat) (s : Nat × Nat), (path A B k s).length = k
  | 0, _ => rfl
  | k + 1, s => by rw [path_cons, List.length_cons, path_len A B k]
theorem path_snoc (A B : Machine) : ∀ (k : Nat) (s : Nat × Nat), path A B (k + 1) s = path A B k s ++ [it A B k s]
  | 0, _ => rfl
  | k + 1, s => by
    rw [path_cons, path_snoc A B k (stp A B s), path_cons]
    rfl
theorem path_get (A B : Machine) : ∀ (k : Nat) (s : Nat × Nat) (i : Nat), i < k → (path A B k s)[i]? = some (it A B i s)
  | 0, _, _, h => by omega
  | k + 1, s, 0, _ => rfl
  | k + 1, s, i + 1, h => by
    rw [path_cons, List.getElem?_cons_succ, path_get A B k _ i (by omega)]
    rfl
theorem path_take (A B : Machine) : ∀ (k : Nat) (s : Nat × Nat) (i : Nat), i ≤ k → (path A B k s).take i = path A B i s
  | k, _, 0, _ => by rw [List.take_zero]; rfl
  | 0, _, i + 1, h => by omega
  | k + 1, s, i + 1, h => by
    rw [path_cons, List.take_succ_cons, path_take A B k _ i (by omega), path_cons]
theorem it_lt {A B : Machine} (oA : Ok A) (oB : Ok B) : ∀ (k : Nat) (s : Nat × Nat), s.1 < A.length → s.2 < B.length → (it A B k s).1 < A.length ∧ (it A B k s).2 < B.length
  | 0, _, h1, h2 => ⟨h1, h2⟩
  | k + 1, s, _, _ => it_lt oA oB k (stp A B s) (oA.next_lt _ _) (oB.next_lt _ _)
theorem prod_len (m n : Nat) : ((List.range m).flatMap fun i => (List.range n).map fun j => (i, j)).length = m * n := by
  rw [List.length_flatMap]
  have e : (List.map (fun a => (List.map (fun j => (a, j)) (List.range n)).length) (List.range m)) = List.replicate m n := by
    rw [List.eq_replicate_iff]
    refine ⟨by simp, ?_⟩
    intro b hb
    simp at hb
    exact hb.2.symm
  rw [e, List.sum_replicate_nat]
theorem mem_prod {m n : Nat} {p : Nat × Nat} (h1 : p.1 < m) (h2 : p.2 < n) : p ∈ ((List.range m).flatMap fun i => (List.range n).map fun j => (i, j)) := by
  rw [List.mem_flatMap]
  exact ⟨p.1, List.mem_range.mpr h1, List.mem_map.mpr ⟨p.2, List.mem_range.mpr h2, rfl⟩⟩
theorem pairs_le {m n : Nat} {l : List (Nat × Nat)} (nd : l.Nodup) (h : ∀ p ∈ l, p.1 < m ∧ p.2 < n) : l.length ≤ m * n := by
  rw [← prod_len m n]
  exact nd.length_le_of_subset fun p hp => mem_prod (h p hp).1 (h p hp).2
structure Rnd (A B : Machine) (m : Nat) : Prop where
  nd : (path A B m (0, 0)).Nodup
  go : meets (path A B m (0, 0)) (path A B (A.length * B.length + 1 - m) (it A B m (0, 0))) = round A B
theorem Rnd.start (A B : Machine) : Rnd A B 0 := ⟨List.nodup_nil, rfl⟩
theorem path_mem {A B : Machine} (oA : Ok A) (oB : Ok B) {m : Nat} {p : Nat × Nat} (h : p ∈ path A B m (0, 0)) : p.1 < A.length ∧ p.2 < B.length := by
  obtain ⟨i, hi⟩ := List.getElem?_of_mem h
  have hl := (List.getElem?_eq_some_iff.mp hi).1
  rw [path_len] at hl
  rw [path_get A B m _ i hl] at hi
  have := Option.some.inj hi
  subst this
  exact it_lt oA oB i (0, 0) oA.pos oB.pos
theorem Rnd.le {A B : Machine} (oA : Ok A) (oB : Ok B) {m : Nat} (h : Rnd A B m) : m ≤ A.length * B.length := by
  have := pairs_le h.nd (m := A.length) (n := B.length) (fun p hp => path_mem oA oB hp)
  rwa [path_len] at this
theorem meets_none {seen r : List (Nat × Nat)} {s : Nat × Nat} (h : ¬ s ∈ seen) : meets seen (s :: r) = meets (seen ++ [s]) r := by
  have e : (seen.findIdx? fun (x : Nat × Nat) => x == s) = none := by
    rw [List.findIdx?_eq_none_iff]
    intro x hx
    rw [beq_eq_false_iff_ne]
    intro q; rw [q] at hx; exact h hx
  rw [meets, e]
theorem meets_some {seen r : List (Nat × Nat)} {s : Nat × Nat} {j : Nat} (nd : seen.Nodup) (h : seen[j]? = some s) : meets seen (s :: r) = (seen.length, j) := by
  have hj := (List.getElem?_eq_some_iff.mp h).1
  have e : (seen.findIdx? fun (x : Nat × Nat) => x == s) = some j := by
    rw [List.findIdx?_eq_some_iff_getElem]
    have hg : seen[j] = s := (List.getElem?_eq_some_iff.mp h).2
    refine ⟨hj, by rw [hg]; exact beq_self_eq_true s, fun i hi q => ?_⟩
    have q' := eq_of_beq q
    rw [← hg] at q'
    have := (List.getElem_inj nd).mp q'
    omega
  rw [meets, e]
theorem Rnd.step {A B : Machine} (oA : Ok A) (oB : Ok B) {m : Nat} (h : Rnd A B m) (n : ¬ it A B m (0, 0) ∈ path A B m (0, 0)) : Rnd A B (m + 1) := by
  have hl := h.le oA oB
  refine ⟨?_, ?_⟩
  · rw [path_snoc, List.nodup_append]
    refine ⟨h.nd, by simp, fun a ha b hb => ?_⟩
    simp at hb
    intro e; rw [hb] at e; rw [e] at ha; exact n ha
  · have g := h.go
    rw [show A.length * B.length + 1 - m = (A.length * B.length + 1 - (m + 1)) + 1 by omega, path_cons, meets_none n, ← path_snoc] at g
    rw [it_succ]
    exact g
theorem Rnd.done {A B : Machine} (oA : Ok A) (oB : Ok B) {m j : Nat} (h : Rnd A B m) (e : (path A B m (0, 0))[j]? = some (it A B m (0, 0))) : again A B = m ∧ since A B = j ∧ j < m := by
  have hl := h.le oA oB
  have g := h.go
  rw [show A.length * B.length + 1 - m = (A.length * B.length - m) + 1 by omega, path_cons, meets_some h.nd e, path_len] at g
  have hj := (List.getElem?_eq_some_iff.mp e).1
  rw [path_len] at hj
  unfold again since
  rw [← g]
  exact ⟨rfl, rfl, hj⟩
theorem Rnd.ends {A B : Machine} (oA : Ok A) (oB : Ok B) : ∀ (f m : Nat), A.length * B.length + 1 - m ≤ f → Rnd A B m → ∃ (m' j : Nat), Rnd A B m' ∧ (path A B m' (0, 0))[j]? = some (it A B m' (0, 0))
  | 0, m, hf, h => by
    have := h.le oA oB
    omega
  | f + 1, m, hf, h => by
    by_cases c : it A B m (0, 0) ∈ path A B m (0, 0)
    · obtain ⟨j, hj⟩ := List.getElem?_of_mem c
      exact ⟨m, j, h, hj⟩
    · exact Rnd.ends oA oB f (m + 1) (by omega) (h.step oA oB c)
theorem since_lt {A B : Machine} (oA : Ok A) (oB : Ok B) : since A B < again A B ∧ again A B ≤ A.length * B.length := by
  obtain ⟨m, j, h, e⟩ := Rnd.ends oA oB _ 0 (Nat.le_refl _) (Rnd.start A B)
  obtain ⟨e1, e2, e3⟩ := h.done oA oB e
  rw [e1, e2]
  exact ⟨e3, h.le oA oB⟩
/-! the other way round -/
def sw (p : Nat × Nat) : Nat × Nat := (p.2, p.1)
theorem path_sw (A B : Machine) : ∀ (k : Nat) (s : Nat × Nat), path B A k (sw s) = (path A B k s).map sw
  | 0, _ => rfl
  | k + 1, s => by
    rw [path_cons, path_cons, List.map_cons, ← path_sw A B k]
    rfl
theorem findIdx_sw (s : Nat × Nat) : ∀ (l : List (Nat × Nat)), ((l.map sw).findIdx? fun x => x == sw s) = (l.findIdx? fun x => x == s)
  | [] => rfl
  | a :: l => by
    have e : (sw a == sw s) = (a == s) := by
      rw [Bool.eq_iff_iff, beq_iff_eq, beq_iff_eq]
      constructor
      · intro q
        have h1 := congrArg Prod.fst q
        have h2 := congrArg Prod.snd q
        exact Prod.ext h2 h1
      · intro q; rw [q]
    rw [List.map_cons, List.findIdx?_cons, List.findIdx?_cons, e, findIdx_sw s l]
theorem meets_sw : ∀ (r seen : List (Nat × Nat)), meets (seen.map sw) (r.map sw) = meets seen r
  | [], _ => rfl
  | s :: r, seen => by
    rw [List.map_cons, meets, meets, findIdx_sw]
    split
    · rw [List.length_map]
    · rw [← meets_sw r (seen ++ [s]), List.map_append]
      rfl
theorem round_sw (A B : Machine) : round B A = round A B := by
  unfold round
  rw [Nat.mul_comm B.length A.length, show path B A (A.length * B.length + 1) (0, 0) = (path A B (A.length * B.length + 1) (0, 0)).map sw from path_sw A B _ (0, 0)]
  exact meets_sw _ []
theorem again_sw (A B : Machine) : again B A = again A B := by unfold again; rw [round_sw]
theorem since_sw (A B : Machine) : since B A = since A B := by unfold since; rw [round_sw]
/-! what is paid -/
/-- how often a place comes -/
def tms (j t k i : Nat) : Nat := if k ≤ i then 0 else if i < j then 1 else (k - i - 1) / t + 1
/-- what is paid by the first i places -/
def acc (p : List Int) (j t k : Nat) : Nat → Int
  | 0 => 0
  | i + 1 => acc p j t k i + (tms j t k i : Int) * p.getD i 0
theorem sum_snoc : ∀ (l : List Int) (z : Int), (l ++ [z]).sum = l.sum + z
  | [], z => by simp
  | a :: l, z => by
    rw [List.cons_append, List.sum_cons, sum_snoc l z, List.sum_cons]
    omega
theorem take_more {α : Type} {l : List α} {i : Nat} {x : α} (h : l[i]? = some x) : l.take (i + 1) = l.take i ++ [x] := by
  rw [List.take_add_one, h]; rfl
theorem take_sum (p : List Int) (i : Nat) (h : i < p.length) : (p.take (i + 1)).sum = (p.take i).sum + p.getD i 0 := by
  have e : p[i]? = some (p.getD i 0) := by rw [List.getD_eq_getElem?_getD, List.getElem?_eq_getElem h]; rfl
  rw [take_more e, sum_snoc]
theorem acc_short (p : List Int) (j t k : Nat) (hn : p.length = j + t) (hk : k ≤ p.length) : ∀ i, i ≤ p.length → acc p j t k i = (p.take (min i k)).sum
  | 0, _ => by simp [acc]
  | i + 1, hi => by
    rw [acc, acc_short p j t k hn hk i (by omega)]
    unfold tms
    by_cases c : k ≤ i
    · rw [if_pos c, show min (i + 1) k = k by omega, show min i k = k by omega]
      simp
    · rw [if_neg c, show min (i + 1) k = i + 1 by omega, show min i k = i by omega, take_sum p i (by omega)]
      split
      · simp
      · have : (k - i - 1) / t = 0 := Nat.div_eq_of_lt (by omega)
        rw [this]; simp
theorem acc_head (p : List Int) (j t k : Nat) (hj : j ≤ p.length) (hk : j ≤ k) : ∀ i, i ≤ j → acc p j t k i = (p.take i).sum
  | 0, _ => by simp [acc]
  | i + 1, hi => by
    rw [acc, acc_head p j t k hj hk i (by omega), take_sum p i (by omega)]
    unfold tms
    rw [if_neg (by omega), if_pos (by omega)]
    simp
theorem acc_long (p : List Int) (j t k q m : Nat) (hn : p.length = j + t) (ht : 0 < t) (hk : p.length < k) (hq : k - j = q * t + m) (hm : m < t) :
    ∀ r, r ≤ t → acc p j t k (j + r) = (p.take j).sum + (q : Int) * ((p.drop j).take r).sum + ((p.drop j).take (min r m)).sum
  | 0, _ => by
    rw [Nat.add_zero, acc_head p j t k (by omega) (by omega) j (Nat.le_refl _)]
    simp
  | r + 1, hr => by
    have q1 : 1 ≤ q := by
      rcases Nat.eq_zero_or_pos q with z | z
      · rw [z] at hq; omega
      · exact z
    have ld : (p.drop j).length = t := by rw [List.length_drop]; omega
    have eg : p.getD (j + r) 0 = (p.drop j).getD r 0 := by
      rw [List.getD_eq_getElem?_getD, List.getD_eq_getElem?_getD, List.getElem?_drop]
    rw [show j + (r + 1) = (j + r) + 1 by omega, acc, acc_long p j t k q m hn ht hk hq hm r (by omega), take_sum (p.drop j) r (by omega), eg]
    unfold tms
    rw [if_neg (by omega), if_neg (by omega)]
    by_cases c : r < m
    · have e : (k - (j + r) - 1) / t = q := by
        have : k - (j + r) - 1 = (m - r - 1) + t * q := by rw [Nat.mul_comm t q]; omega
        rw [this, Nat.add_mul_div_left _ _ ht, Nat.div_eq_of_lt (by omega)]
        omega
      rw [e, show min (r + 1) m = r + 1 by omega, show min r m = r by omega, take_sum (p.drop j) r (by omega)]
      rw [Int.mul_add, Int.natCast_add, Int.add_mul]
      simp
      omega
    · have e : (k - (j + r) - 1) / t = q - 1 := by
        obtain ⟨q', rfl⟩ : ∃ q', q = q' + 1 := ⟨q - 1, by omega⟩
        have : k - (j + r) - 1 = (t + m - r - 1) + t * q' := by
          rw [Nat.add_mul, Nat.one_mul] at hq
          rw [Nat.mul_comm t q']; omega
        rw [this, Nat.add_mul_div_left _ _ ht, Nat.div_eq_of_lt (by omega)]
        omega
      rw [e, show q - 1 + 1 = q by omega, show min (r + 1) m = m by omega, show min r m = m by omega, Int.mul_add]
      omega
def pays (g : Pay) (A B : Machine) : List Int := (path A B (again A B) (0, 0)).map fun (s : Nat × Nat) => pay g (act A s.1) (act B s.2)
theorem pays_len (g : Pay) (A B : Machine) : (pays g A B).length = again A B := by unfold pays; rw [List.length_map, path_len]
theorem total_is {A B : Machine} (oA : Ok A) (oB : Ok B) (g : Pay) (k : Nat) : total g A B k = acc (pays g A B) (since A B) (turn A B) k (again A B) := by
  obtain ⟨h1, _⟩ := since_lt oA oB
  have hl := pays_len g A B
  have ht : turn A B = again A B - since A B := rfl
  unfold total
  show (if k ≤ again A B then ((pays g A B).take k).sum else ((pays g A B).take (since A B)).sum + (((k - since A B) / turn A B : Nat) : Int) * (((pays g A B).drop (since A B)).take (turn A B)).sum + (((pays g A B).drop (since A B)).take ((k - since A B) % turn A B)).sum) = _
  by_cases c : k ≤ again A B
  · rw [if_pos c, acc_short _ _ _ _ (by omega) (by omega) _ (by omega), show min (again A B) k = k by omega]
  · rw [if_neg c]
    have hm : (k - since A B) % turn A B < turn A B := Nat.mod_lt _ (by omega)
    have := acc_long (pays g A B) (since A B) (turn A B) k ((k - since A B) / turn A B) ((k - since A B) % turn A B) (by omega) (by omega) (by omega)
      (by rw [Nat.mul_comm]; exact (Nat.div_add_mod _ _).symm) hm (turn A B) (Nat.le_refl _)
    rw [show since A B + turn A B = again A B by omega, show min (turn A B) ((k - since A B) % turn A B) = (k - since A B) % turn A B by omega] at this
    exact this.symm
/-- the other's -/
theorem pays_sw (g : Pay) (A B : Machine) : pays g B A = (path A B (again A B) (0, 0)).map fun (s : Nat × Nat) => pay g (act B s.2) (act A s.1) := by
  unfold pays
  rw [again_sw, show path B A (again A B) (0, 0) = (path A B (again A B) (0, 0)).map sw from path_sw A B _ (0, 0), List.map_map]
  rfl
theorem turn_sw (A B : Machine) : turn B A = turn A B := by unfold turn; rw [again_sw, since_sw]
theorem total_sw {A B : Machine} (oA : Ok A) (oB : Ok B) (g : Pay) (k : Nat) : total g B A k = acc (pays g B A) (since A B) (turn A B) k (again A B) := by
  rw [total_is oB oA, since_sw, turn_sw, again_sw]
end Gt
/-! ## GtAlike -/
namespace Gt
open Rc89
/-! machines that are the same: classes of states become finer until they stay -/
theorem filter_lt {p q : Nat → Bool} : ∀ {l : List Nat}, (∀ x ∈ l, p x = true → q x = true) → (∃ x ∈ l, q x = true ∧ p x = false) → (l.filter p).length < (l.filter q).length
  | [], _, ⟨_, h, _⟩ => by simp at h
  | a :: l, hpq, ⟨x, hx, h1, h2⟩ => by
    have hle : ∀ (l : List Nat), (∀ x ∈ l, p x = true → q x = true) → (l.filter p).length ≤ (l.filter q).length := by
      intro l
      induction l with
      | nil => intro _; simp
      | cons b l ih =>
        intro h
        have h0 := ih fun x hx => h x (List.mem_cons_of_mem _ hx)
        by_cases c : p b = true
        · rw [List.filter_cons_of_pos c, List.filter_cons_of_pos (h b List.mem_cons_self c)]
          simp; exact h0
        · rw [List.filter_cons_of_neg c]
          by_cases d : q b = true
          · rw [List.filter_cons_of_pos d]; simp; omega
          · rw [List.filter_cons_of_neg d]; exact h0
    have hl : ∀ x ∈ l, p x = true → q x = true := fun x hx => hpq x (List.mem_cons_of_mem _ hx)
    rw [List.mem_cons] at hx
    rcases hx with rfl | hx
    · rw [List.filter_cons_of_neg (by rw [h2]; decide), List.filter_cons_of_pos h1]
      have := hle l hl
      simp; omega
    · have ih := filter_lt hl ⟨x, hx, h1, h2⟩
      by_cases c : p a = true
      · rw [List.filter_cons_of_pos c, List.filter_cons_of_pos (hpq a List.mem_cons_self c)]
        simp; exact ih
      · rw [List.filter_cons_of_neg c]
        by_cases d : q a = true
        · rw [List.filter_cons_of_pos d]; simp; omega
        · rw [List.filter_cons_of_neg d]; exact ih
theorem least_in {l : List Nat} {p : Nat → Bool} : ∀ (n x : Nat), x ≤ n → x ∈ l → p x = true → ∃ r ∈ l, p r = true ∧ ∀ u ∈ l, p u = true → r ≤ u
  | 0, x, hn, hx, hp => ⟨x, hx, hp, fun u _ _ => by omega⟩
  | n + 1, x, hn, hx, hp => by
    by_cases c : ∃ u ∈ l, p u = true ∧ u < x
    · obtain ⟨u, hu, hpu, hlt⟩ := c
      exact least_in n u (by omega) hu hpu
    · refine ⟨x, hx, hp, fun u hu hpu => ?_⟩
      by_cases d : u < x
      · exact absurd ⟨u, hu, hpu, d⟩ c
      · omega
structure Ref (l : List Nat) (E : Nat → Nat → Nat → Bool) : Prop where
  refl : ∀ k, ∀ s ∈ l, E k s s = true
  symm : ∀ k, ∀ s ∈ l, ∀ u ∈ l, E k s u = true → E k u s = true
  trans : ∀ k, ∀ s ∈ l, ∀ u ∈ l, ∀ v ∈ l, E k s u = true → E k u v = true → E k s v = true
  down : ∀ k, ∀ s ∈ l, ∀ u ∈ l, E (k + 1) s u = true → E k s u = true
  det : ∀ k, (∀ s ∈ l, ∀ u ∈ l, E k s u = true → E (k + 1) s u = true) → ∀ s ∈ l, ∀ u ∈ l, E (k + 1) s u = true → E (k + 2) s u = true
def reps (l : List Nat) (E : Nat → Nat → Nat → Bool) (k : Nat) : List Nat := l.filter fun s => !l.any fun u => decide (u < s) && E k u s
theorem rep_iff {l : List Nat} {E : Nat → Nat → Nat → Bool} {k s : Nat} : (!l.any fun u => decide (u < s) && E k u s) = true ↔ ∀ u ∈ l, u < s → E k u s = false := by
  rw [Bool.not_eq_true', List.any_eq_false]
  constructor
  · intro h u hu hlt
    have := h u hu
    rw [Bool.and_eq_true, decide_eq_true_eq] at this
    cases e : E k u s with
    | false => rfl
    | true => exact absurd ⟨hlt, e⟩ this
  · intro h u hu
    rw [Bool.and_eq_true, decide_eq_true_eq]
    rintro ⟨h1, h2⟩
    rw [h u hu h1] at h2
    exact Bool.noConfusion h2
def Stable (l : List Nat) (E : Nat → Nat → Nat → Bool) (k : Nat) : Prop := ∀ s ∈ l, ∀ u ∈ l, E k s u = true → E (k + 1) s u = true
theorem Ref.grow {l : List Nat} {E : Nat → Nat → Nat → Bool} (r : Ref l E) {k : Nat} (h : ¬ Stable l E k) : (reps l E k).length < (reps l E (k + 1)).length := by
  have h : ∃ s ∈ l, ∃ u ∈ l, E k s u = true ∧ E (k + 1) s u = false := by
    apply Classical.byContradiction
    intro q
    apply h
    intro s hs u hu e
    cases e2 : E (k + 1) s u with
    | true => rfl
    | false => exact absurd ⟨s, hs, u, hu, e, e2⟩ q
  obtain ⟨s, hs, u, hu, e1, e2⟩ := h
  unfold reps
  apply filter_lt
  · intro x hx hp
    rw [rep_iff] at hp ⊢
    intro v hv hlt
    have := hp v hv hlt
    cases e : E (k + 1) v x with
    | false => rfl
    | true => rw [r.down k v hv x hx e] at this; exact this
  · -- the least of the class of s
    obtain ⟨m, hm, em, hmin⟩ := least_in (l := l) (p := fun v => E k v s) s s (Nat.le_refl _) hs (r.refl k s hs)
    have hx : ∃ x ∈ l, E k x s = true ∧ E (k + 1) x m = false := by
      cases a : E (k + 1) s m with
      | false => exact ⟨s, hs, r.refl k s hs, a⟩
      | true =>
        refine ⟨u, hu, r.symm k s hs u hu e1, ?_⟩
        cases b : E (k + 1) u m with
        | false => rfl
        | true =>
          have := r.trans (k + 1) s hs m hm u hu a (r.symm _ u hu m hm b)
          rw [e2] at this
          exact Bool.noConfusion this
    obtain ⟨x, hx, ex, ne⟩ := hx
    obtain ⟨y, hy, ey, hymin⟩ := least_in (l := l) (p := fun v => E (k + 1) v x) x x (Nat.le_refl _) hx (r.refl (k + 1) x hx)
    have eys : E k y s = true := r.trans k y hy x hx s hs (r.down k y hy x hx ey) ex
    have hmy : m ≤ y := hmin y hy eys
    have hne : m ≠ y := by
      rintro rfl
      rw [r.symm (k + 1) m hm x hx ey] at ne
      exact Bool.noConfusion ne
    refine ⟨y, hy, ?_, ?_⟩
    · rw [rep_iff]
      intro v hv hlt
      cases e : E (k + 1) v y with
      | false => rfl
      | true =>
        have := hymin v hv (r.trans (k + 1) v hv y hy x hx e ey)
        omega
    · cases e : (!l.any fun u => decide (u < y) && E k u y) with
      | false => rfl
      | true =>
        rw [rep_iff] at e
        have := e m hm (by omega)
        rw [r.trans k m hm s hs y hy em (r.symm k y hy s hs eys)] at this
        exact Bool.noConfusion this
theorem reps_pos {l : List Nat} {E : Nat → Nat → Nat → Bool} {k : Nat} (h : l ≠ []) : 1 ≤ (reps l E k).length := by
  obtain ⟨x, hx⟩ : ∃ x, x ∈ l := by cases l with | nil => exact absurd rfl h | cons a l => exact ⟨a, by simp⟩
  obtain ⟨m, hm, _, hmin⟩ := least_in (l := l) (p := fun _ => true) x x (Nat.le_refl _) hx rfl
  have : m ∈ reps l E k := by
    unfold reps
    rw [List.mem_filter, rep_iff]
    refine ⟨hm, fun u hu hlt => ?_⟩
    have := hmin u hu rfl
    omega
  exact List.length_pos_of_mem this
theorem Ref.stays {l : List Nat} {E : Nat → Nat → Nat → Bool} (r : Ref l E) {k : Nat} (h : Stable l E k) : ∀ j, Stable l E (k + j)
  | 0 => h
  | j + 1 => r.det (k + j) (r.stays h j)
theorem Ref.finds {l : List Nat} {E : Nat → Nat → Nat → Bool} (r : Ref l E) (h : l ≠ []) : ∀ k, (∃ j, j < k ∧ Stable l E j) ∨ k + 1 ≤ (reps l E k).length
  | 0 => .inr (reps_pos h)
  | k + 1 => by
    rcases r.finds h k with ⟨j, h1, h2⟩ | h1
    · exact .inl ⟨j, by omega, h2⟩
    · by_cases c : Stable l E k
      · exact .inl ⟨k, by omega, c⟩
      · have := r.grow c
        exact .inr (by omega)
theorem Ref.stable {l : List Nat} {E : Nat → Nat → Nat → Bool} (r : Ref l E) {k : Nat} (hk : l.length ≤ k) : Stable l E k := by
  by_cases h : l = []
  · subst h; intro s hs; simp at hs
  · rcases r.finds h l.length with ⟨j, h1, h2⟩ | h1
    · have := r.stays h2 (k - j)
      rwa [show j + (k - j) = k by omega] at this
    · have : (reps l E l.length).length ≤ l.length := List.length_filter_le _ _
      omega
theorem Ref.up {l : List Nat} {E : Nat → Nat → Nat → Bool} (r : Ref l E) {k s u : Nat} (hk : l.length ≤ k) (hs : s ∈ l) (hu : u ∈ l) (h : E k s u = true) : ∀ j, E (k + j) s u = true
  | 0 => h
  | j + 1 => r.stable (k := k + j) (by omega) s hs u hu (r.up hk hs hu h j)
theorem Ref.downs {l : List Nat} {E : Nat → Nat → Nat → Bool} (r : Ref l E) {k s u : Nat} (hs : s ∈ l) (hu : u ∈ l) : ∀ j, E (k + j) s u = true → E k s u = true
  | 0, h => h
  | j + 1, h => r.downs hs hu j (r.down (k + j) s hs u hu h)
theorem Ref.all {l : List Nat} {E : Nat → Nat → Nat → Bool} (r : Ref l E) {k s u : Nat} (hk : l.length ≤ k) (hs : s ∈ l) (hu : u ∈ l) (h : E k s u = true) (m : Nat) : E m s u = true := by
  have := r.up hk hs hu h m
  rw [Nat.add_comm] at this
  exact r.downs hs hu k this
theorem Ref.eq {l : List Nat} {E : Nat → Nat → Nat → Bool} (r : Ref l E) {k m s u : Nat} (hk : l.length ≤ k) (hm : l.length ≤ m) (hs : s ∈ l) (hu : u ∈ l) : E k s u = E m s u := by
  rw [Bool.eq_iff_iff]
  exact ⟨fun h => r.all hk hs hu h m, fun h => r.all hm hs hu h k⟩
/-! one machine -/
def alG (a : Nat → Nat) (nx : Nat → Nat → Nat) : Nat → Nat → Nat → Bool
  | 0, _, _ => true
  | k + 1, s, u => a s == a u && (alG a nx k (nx s 0) (nx u 0) && alG a nx k (nx s 1) (nx u 1))
theorem alG_succ {a : Nat → Nat} {nx : Nat → Nat → Nat} {k s u : Nat} : alG a nx (k + 1) s u = true ↔ a s = a u ∧ alG a nx k (nx s 0) (nx u 0) = true ∧ alG a nx k (nx s 1) (nx u 1) = true := by
  rw [alG, Bool.and_eq_true, Bool.and_eq_true, beq_iff_eq]
theorem alG_refl (a : Nat → Nat) (nx : Nat → Nat → Nat) : ∀ (k s : Nat), alG a nx k s s = true
  | 0, _ => rfl
  | k + 1, s => alG_succ.mpr ⟨rfl, alG_refl a nx k _, alG_refl a nx k _⟩
theorem alG_symm (a : Nat → Nat) (nx : Nat → Nat → Nat) : ∀ (k s u : Nat), alG a nx k s u = true → alG a nx k u s = true
  | 0, _, _, _ => rfl
  | k + 1, s, u, h => by
    rw [alG_succ] at h ⊢
    exact ⟨h.1.symm, alG_symm a nx k _ _ h.2.1, alG_symm a nx k _ _ h.2.2⟩
theorem alG_trans (a : Nat → Nat) (nx : Nat → Nat → Nat) : ∀ (k s u v : Nat), alG a nx k s u = true → alG a nx k u v = true → alG a nx k s v = true
  | 0, _, _, _, _, _ => rfl
  | k + 1, s, u, v, h, g => by
    rw [alG_succ] at h g ⊢
    exact ⟨h.1.trans g.1, alG_trans a nx k _ _ _ h.2.1 g.2.1, alG_trans a nx k _ _ _ h.2.2 g.2.2⟩
theorem alG_down (a : Nat → Nat) (nx : Nat → Nat → Nat) : ∀ (k s u : Nat), alG a nx (k + 1) s u = true → alG a nx k s u = true
  | 0, _, _, _ => rfl
  | k + 1, s, u, h => by
    rw [alG_succ] at h
    rw [alG_succ]
    exact ⟨h.1, alG_down a nx k _ _ h.2.1, alG_down a nx k _ _ h.2.2⟩
theorem alG_ref {a : Nat → Nat} {nx : Nat → Nat → Nat} {l : List Nat} (h0 : ∀ s ∈ l, nx s 0 ∈ l) (h1 : ∀ s ∈ l, nx s 1 ∈ l) : Ref l (alG a nx) :=
  ⟨fun k s _ => alG_refl a nx k s, fun k s _ u _ => alG_symm a nx k s u, fun k s _ u _ v _ => alG_trans a nx k s u v, fun k s _ u _ => alG_down a nx k s u,
    fun k h s hs u hu e => by
      rw [alG_succ] at e ⊢
      exact ⟨e.1, h _ (h0 s hs) _ (h0 u hu) e.2.1, h _ (h1 s hs) _ (h1 u hu) e.2.2⟩⟩
/-! two machines -/
def alAB (A B : Machine) : Nat → Nat → Nat → Bool
  | 0, _, _ => true
  | k + 1, s, u => act A s == act B u && (alAB A B k (next A s 0) (next B u 0) && alAB A B k (next A s 1) (next B u 1))
theorem alAB_succ {A B : Machine} {k s u : Nat} : alAB A B (k + 1) s u = true ↔ act A s = act B u ∧ alAB A B k (next A s 0) (next B u 0) = true ∧ alAB A B k (next A s 1) (next B u 1) = true := by
  rw [alAB, Bool.and_eq_true, Bool.and_eq_true, beq_iff_eq]
theorem alAA (A : Machine) : ∀ (k s u : Nat), alAB A A k s u = alG (act A) (next A) k s u
  | 0, _, _ => rfl
  | k + 1, s, u => by rw [alAB, alG, alAA A k, alAA A k]
theorem getD_map {α β : Type} (f : α → β) (l : List α) (i : Nat) (d : β) (a : α) (h : l[i]? = some a) : (l.map f).getD i d = f a := by
  rw [List.getD_eq_getElem?_getD, List.getElem?_map, h]; rfl
theorem alike_get {A B : Machine} (oA : Ok A) (oB : Ok B) : ∀ (k s u : Nat), s < A.length → u < B.length → ((alike A B k).getD s []).getD u true = alAB A B k s u
  | 0, s, u, hs, hu => by
    show ((A.map fun _ => B.map fun _ => true).getD s []).getD u true = true
    rw [getD_map _ A s [] _ (List.getElem?_eq_getElem hs), getD_map _ B u true _ (List.getElem?_eq_getElem hu)]
  | k + 1, s, u, hs, hu => by
    have ih := alike_get oA oB k
    show (((List.range A.length).map fun (s : Nat) => (List.range B.length).map fun (u : Nat) => act A s == act B u && (((alike A B k).getD (next A s 0) []).getD (next B u 0) true && ((alike A B k).getD (next A s 1) []).getD (next B u 1) true)).getD s []).getD u true = _
    rw [getD_map _ _ s [] s (List.getElem?_range hs), getD_map _ _ u true u (List.getElem?_range hu)]
    rw [ih _ _ (oA.next_lt s 0) (oB.next_lt u 0), ih _ _ (oA.next_lt s 1) (oB.next_lt u 1)]
    rfl
/-- both in one -/
def ca (A B : Machine) (x : Nat) : Nat := if x < A.length then act A x else act B (x - A.length)
def cn (A B : Machine) (x d : Nat) : Nat := if x < A.length then next A x d else A.length + next B (x - A.length) d
theorem alAB_comb {A B : Machine} (oA : Ok A) : ∀ (k s u : Nat), s < A.length → alAB A B k s u = alG (ca A B) (cn A B) k s (A.length + u)
  | 0, _, _, _ => rfl
  | k + 1, s, u, hs => by
    have e1 : ca A B s = act A s := if_pos hs
    have e2 : ca A B (A.length + u) = act B u := by unfold ca; rw [if_neg (by omega), show A.length + u - A.length = u by omega]
    have e3 : ∀ d, cn A B s d = next A s d := fun d => if_pos hs
    have e4 : ∀ d, cn A B (A.length + u) d = A.length + next B u d := fun d => by unfold cn; rw [if_neg (by omega), show A.length + u - A.length = u by omega]
    rw [alAB, alG, e1, e2, e3, e4, e3, e4, alAB_comb oA k _ _ (oA.next_lt s 0), alAB_comb oA k _ _ (oA.next_lt s 1)]
theorem alAB_all {A B : Machine} (oA : Ok A) (oB : Ok B) {k s u : Nat} (hk : A.length + B.length ≤ k) (hs : s < A.length) (hu : u < B.length) (h : alAB A B k s u = true) (m : Nat) : alAB A B m s u = true := by
  have cl : ∀ d, ∀ x ∈ List.range (A.length + B.length), cn A B x d ∈ List.range (A.length + B.length) := by
    intro d x hx
    rw [List.mem_range] at hx ⊢
    unfold cn
    split
    · have := oA.next_lt x d; omega
    · have := oB.next_lt (x - A.length) d; omega
  have r : Ref (List.range (A.length + B.length)) (alG (ca A B) (cn A B)) := alG_ref (cl 0) (cl 1)
  rw [alAB_comb oA _ _ _ hs] at h ⊢
  exact r.all (by rw [List.length_range]; exact hk) (List.mem_range.mpr (by omega)) (List.mem_range.mpr (by omega)) h m
theorem alAB_run {A B : Machine} : ∀ (ds : List Nat) (s u k : Nat), ds.length < k → alAB A B k s u = true → act A (run A s ds) = act B (run B u ds)
  | _, _, _, 0, h, _ => by omega
  | [], s, u, k + 1, _, h => (alAB_succ.mp h).1
  | d :: ds, s, u, k + 1, hl, h => by
    have h := alAB_succ.mp h
    have hl : ds.length < k := by rw [List.length_cons] at hl; omega
    show act A (run A (next A s d) ds) = act B (run B (next B u d) ds)
    by_cases c : d = 0
    · rw [c]; exact alAB_run ds _ _ k hl h.2.1
    · have e : ∀ (C : Machine) (x : Nat), next C x d = next C x 1 := fun C x => by unfold next; rw [if_neg c, if_neg (by decide)]
      rw [e, e]; exact alAB_run ds _ _ k hl h.2.2
theorem same_is {A B : Machine} (oA : Ok A) (oB : Ok B) : same A B = alAB A B (A.length + B.length) 0 0 := alike_get oA oB _ 0 0 oA.pos oB.pos
theorem same_false {A B : Machine} (oA : Ok A) (oB : Ok B) {ds : List Nat} (h : act A (run A 0 ds) ≠ act B (run B 0 ds)) : same A B = false := by
  cases e : same A B with
  | false => rfl
  | true =>
    rw [same_is oA oB] at e
    exact absurd (alAB_run ds 0 0 (ds.length + 1) (by omega) (alAB_all oA oB (Nat.le_refl _) oA.pos oB.pos e _)) h
/-- the search over pairs -/
structure Sme (A B : Machine) (f w : List (Nat × Nat)) : Prop where
  nd : f.Nodup
  lt : ∀ p ∈ f, p.1 < A.length ∧ p.2 < B.length
  rch : ∀ p ∈ w, ∃ ds, run A 0 ds = p.1 ∧ run B 0 ds = p.2
  zero : (0, 0) ∈ f ∨ (0, 0) ∈ w
  eq : ∀ p ∈ f, act A p.1 = act B p.2
  cl : ∀ p ∈ f, ∀ x, (next A p.1 x, next B p.2 x) ∈ f ∨ (next A p.1 x, next B p.2 x) ∈ w
theorem Sme.start (A B : Machine) : Sme A B [] [(0, 0)] :=
  ⟨List.nodup_nil, by simp, by intro p h; simp at h; subst h; exact ⟨[], rfl, rfl⟩, by simp, by simp, by simp⟩
theorem Sme.lt_w {A B : Machine} (oA : Ok A) (oB : Ok B) {f w : List (Nat × Nat)} (h : Sme A B f w) {p : Nat × Nat} (m : p ∈ w) : p.1 < A.length ∧ p.2 < B.length := by
  obtain ⟨ds, e1, e2⟩ := h.rch p m
  rw [← e1, ← e2]
  exact ⟨oA.run_lt ds 0 oA.pos, oB.run_lt ds 0 oB.pos⟩
theorem Sme.known {A B : Machine} {f w : List (Nat × Nat)} {p : Nat × Nat} (h : Sme A B f (w ++ [p])) (m : p ∈ f) : Sme A B f w := by
  refine ⟨h.nd, h.lt, fun u hu => h.rch u (List.mem_append_left _ hu), ?_, h.eq, fun u hu x => ?_⟩
  · rcases h.zero with z | z
    · exact .inl z
    · rw [List.mem_append] at z
      rcases z with z | z
      · exact .inr z
      · rw [List.mem_singleton] at z; rw [z]; exact .inl m
  · rcases h.cl u hu x with z | z
    · exact .inl z
    · rw [List.mem_append] at z
      rcases z with z | z
      · exact .inr z
      · rw [List.mem_singleton] at z; rw [z]; exact .inl m
theorem Sme.fresh {A B : Machine} (oA : Ok A) (oB : Ok B) {f w : List (Nat × Nat)} {p : Nat × Nat} (h : Sme A B f (w ++ [p])) (m : ¬ p ∈ f) (e : act A p.1 = act B p.2) :
    Sme A B (f ++ [p]) (w ++ [(next A p.1 0, next B p.2 0), (next A p.1 1, next B p.2 1)]) := by
  have hp : p ∈ w ++ [p] := by simp
  obtain ⟨ds, r1, r2⟩ := h.rch p hp
  have hnx : ∀ x, ∃ ds, run A 0 ds = next A p.1 x ∧ run B 0 ds = next B p.2 x := fun x =>
    ⟨ds ++ [x], by rw [run_append, r1]; rfl, by rw [run_append, r2]; rfl⟩
  refine ⟨?_, ?_, ?_, ?_, ?_, ?_⟩
  · rw [List.nodup_append]
    refine ⟨h.nd, by simp, fun a ha b hb => ?_⟩
    rw [List.mem_singleton] at hb
    intro q; rw [hb] at q; rw [q] at ha; exact m ha
  · intro u hu
    rw [List.mem_append] at hu
    rcases hu with hu | hu
    · exact h.lt u hu
    · rw [List.mem_singleton] at hu; rw [hu]; exact h.lt_w oA oB hp
  · intro u hu
    rw [List.mem_append] at hu
    rcases hu with hu | hu
    · exact h.rch u (List.mem_append_left _ hu)
    · simp at hu
      rcases hu with rfl | rfl
      · exact hnx 0
      · exact hnx 1
  · rcases h.zero with z | z
    · exact .inl (List.mem_append_left _ z)
    · rw [List.mem_append] at z
      rcases z with z | z
      · exact .inr (List.mem_append_left _ z)
      · exact .inl (List.mem_append_right _ z)
  · intro u hu
    rw [List.mem_append] at hu
    rcases hu with hu | hu
    · exact h.eq u hu
    · rw [List.mem_singleton] at hu; rw [hu]; exact e
  · intro u hu x
    rw [List.mem_append] at hu
    rcases hu with hu | hu
    · rcases h.cl u hu x with z | z
      · exact .inl (List.mem_append_left _ z)
      · rw [List.mem_append] at z
        rcases z with z | z
        · exact .inr (List.mem_append_left _ z)
        · exact .inl (List.mem_append_right _ z)
    · rw [List.mem_singleton] at hu; rw [hu]
      right
      refine List.mem_append_right _ ?_
      by_cases c : x = 0
      · rw [c]; simp
      · have e : ∀ (C : Machine) (y : Nat), next C y x = next C y 1 := fun C y => by unfold next; rw [if_neg c, if_neg (by decide)]
        rw [e, e]; simp
theorem Sme.unlike {A B : Machine} (oA : Ok A) (oB : Ok B) {f w : List (Nat × Nat)} {p : Nat × Nat} (h : Sme A B f (w ++ [p])) (e : act A p.1 ≠ act B p.2) : same A B = false := by
  obtain ⟨ds, r1, r2⟩ := h.rch p (by simp)
  exact same_false oA oB (ds := ds) (by rw [r1, r2]; exact e)
theorem Sme.done {A B : Machine} (oA : Ok A) (oB : Ok B) {f : List (Nat × Nat)} (h : Sme A B f []) : same A B = true := by
  have z : (0, 0) ∈ f := by rcases h.zero with z | z; exact z; simp at z
  have cl : ∀ p ∈ f, ∀ x, (next A p.1 x, next B p.2 x) ∈ f := fun p hp x => by rcases h.cl p hp x with z | z; exact z; simp at z
  rw [same_is oA oB]
  have : ∀ (k : Nat) (p : Nat × Nat), p ∈ f → alAB A B k p.1 p.2 = true := by
    intro k
    induction k with
    | zero => intro p _; rfl
    | succ k ih => intro p hp; exact alAB_succ.mpr ⟨h.eq p hp, ih _ (cl p hp 0), ih _ (cl p hp 1)⟩
  exact this _ _ z
theorem Sme.len {A B : Machine} {f w : List (Nat × Nat)} (h : Sme A B f w) : f.length ≤ A.length * B.length := pairs_le h.nd h.lt
/-! the fewest states -/
theorem reached_cl {A : Machine} {ks : List Nat} (h : Rch A ks) (d : Nat) : ∀ s ∈ ks, next A s d ∈ ks := fun s hs => (h.mem _).mpr (((h.mem s).mp hs).next d)
theorem Rch.ref {A : Machine} {ks : List Nat} (h : Rch A ks) : Ref ks (alG (act A) (next A)) := alG_ref (reached_cl h 0) (reached_cl h 1)
theorem filter_congr' {l : List Nat} {p q : Nat → Bool} (h : ∀ x ∈ l, p x = q x) : l.filter p = l.filter q := List.filter_congr h
theorem any_congr' {l : List Nat} {p q : Nat → Bool} (h : ∀ x ∈ l, p x = q x) : l.any p = l.any q := by
  rw [Bool.eq_iff_iff, List.any_eq_true, List.any_eq_true]
  exact ⟨fun ⟨x, hx, e⟩ => ⟨x, hx, by rw [← h x hx]; exact e⟩, fun ⟨x, hx, e⟩ => ⟨x, hx, by rw [h x hx]; exact e⟩⟩
theorem least_is {A : Machine} (o : Ok A) : least A = (reps (reached A) (alG (act A) (next A)) (2 * A.length)).length := by
  unfold least reps
  show ((reached A).filter fun (s : Nat) => !(reached A).any fun (u : Nat) => decide (u < s) && ((alike A A (2 * A.length)).getD u []).getD s true).length = _
  congr 1
  apply filter_congr'
  intro s hs
  congr 1
  apply any_congr'
  intro u hu
  rw [alike_get o o _ _ _ (((mem_reached o u).mp hu).lt o) (((mem_reached o s).mp hs).lt o), alAA]
/-- classes of states told by numbers: alike by the first k rounds -/
def Cls (A : Machine) (ks : List Nat) (k : Nat) (c : Nat → Int) : Prop := ∀ s ∈ ks, ∀ u ∈ ks, c s = c u ↔ alG (act A) (next A) k s u = true
theorem Cls.first (A : Machine) (ks : List Nat) : Cls A ks 1 fun s => (act A s : Int) := by
  intro s _ u _
  rw [alG_succ]
  constructor
  · intro h; exact ⟨Int.ofNat.inj h, rfl, rfl⟩
  · intro h; show (act A s : Int) = (act A u : Int); rw [h.1]
theorem Cls.more {A : Machine} {ks : List Nat} (h : Rch A ks) {k : Nat} {c d : Nat → Int} (H : Cls A ks (k + 1) c)
    (hd : ∀ s ∈ ks, ∀ u ∈ ks, d s = d u ↔ (c s = c u ∧ c (next A s 0) = c (next A u 0) ∧ c (next A s 1) = c (next A u 1))) : Cls A ks (k + 2) d := by
  intro s hs u hu
  rw [hd s hs u hu, H s hs u hu, H _ (reached_cl h 0 s hs) _ (reached_cl h 0 u hu), H _ (reached_cl h 1 s hs) _ (reached_cl h 1 u hu)]
  constructor
  · rintro ⟨h0, h1, h2⟩
    rw [alG_succ] at h0 ⊢
    exact ⟨h0.1, h1, h2⟩
  · intro e
    have := alG_down _ _ _ _ _ e
    rw [alG_succ] at e
    exact ⟨this, e.2.1, e.2.2⟩
theorem Cls.count {A : Machine} (o : Ok A) {ks : List Nat} (h : Rch A ks) {k : Nat} {c : Nat → Int} (H : Cls A ks k c) (hk : ks.length ≤ k) {out : List Int} (nd : out.Nodup) (hm : ∀ z, z ∈ out ↔ ∃ s ∈ ks, c s = z) :
    out.length = least A := by
  have g := Rch.spec o
  have pm := h.perm g
  have r := g.ref
  have lenEq : ks.length = (reached A).length := pm.length_eq
  have cE : ∀ s ∈ reached A, ∀ u ∈ reached A, c s = c u ↔ alG (act A) (next A) (2 * A.length) s u = true := by
    intro s hs u hu
    rw [H s (pm.mem_iff.mpr hs) u (pm.mem_iff.mpr hu), r.eq (k := k) (m := 2 * A.length) (by omega) (by have := g.len_le o; omega) hs hu]
  rw [least_is o, ← List.length_map (f := c) (as := reps (reached A) (alG (act A) (next A)) (2 * A.length))]
  have nd2 : ((reps (reached A) (alG (act A) (next A)) (2 * A.length)).map c).Nodup := by
    unfold List.Nodup
    rw [List.pairwise_map]
    have nr : (reps (reached A) (alG (act A) (next A)) (2 * A.length)).Nodup := (nodup_reached A).filter _
    refine List.Pairwise.imp_of_mem ?_ nr
    intro a b ha hb hab e
    unfold reps at ha hb
    rw [List.mem_filter, rep_iff] at ha hb
    have e1 := (cE a ha.1 b hb.1).mp e
    rcases Nat.lt_or_gt_of_ne hab with l | l
    · have := hb.2 a ha.1 l
      rw [e1] at this; exact Bool.noConfusion this
    · have := ha.2 b hb.1 l
      rw [alG_symm _ _ _ _ _ e1] at this; exact Bool.noConfusion this
  refine (List.Perm.length_eq ((List.perm_ext_iff_of_nodup nd nd2).mpr ?_))
  intro z
  rw [hm, List.mem_map]
  constructor
  · rintro ⟨s, hs, rfl⟩
    have hs' := pm.mem_iff.mp hs
    obtain ⟨m, hm, em, hmin⟩ := least_in (l := reached A) (p := fun v => alG (act A) (next A) (2 * A.length) v s) s s (Nat.le_refl _) hs' (alG_refl _ _ _ _)
    refine ⟨m, ?_, (cE m hm s hs').mpr em⟩
    unfold reps
    rw [List.mem_filter, rep_iff]
    refine ⟨hm, fun u hu hlt => ?_⟩
    cases e : alG (act A) (next A) (2 * A.length) u m with
    | false => rfl
    | true =>
      have := hmin u hu (alG_trans _ _ _ _ _ _ e em)
      omega
  · rintro ⟨s, hs, rfl⟩
    unfold reps at hs
    rw [List.mem_filter] at hs
    exact ⟨s, pm.mem_iff.mpr hs.1, rfl⟩
end Gt
/-! ## GtBest -/
namespace Gt
open Rc89
/-! the best by the round: the longest walks of each length tell it -/
def wt (g : Pay) (A : Machine) : Nat → List Nat → Int
  | _, [] => 0
  | s, d :: ds => pay g d (act A s) + wt g A (next A s d) ds
theorem wt_append (g : Pay) (A : Machine) : ∀ (s : Nat) (a b : List Nat), wt g A s (a ++ b) = wt g A s a + wt g A (run A s a) b
  | s, [], b => by show wt g A s b = 0 + wt g A s b; omega
  | s, d :: a, b => by
    show pay g d (act A s) + wt g A (next A s d) (a ++ b) = pay g d (act A s) + wt g A (next A s d) a + wt g A (run A (next A s d) a) b
    rw [wt_append g A (next A s d) a b]
    omega
structure Most (g : Pay) (A : Machine) (i v : Nat) (z : Int) : Prop where
  ex : ∃ ds, ds.length = i ∧ run A 0 ds = v ∧ wt g A 0 ds = z
  ub : ∀ ds, ds.length = i → run A 0 ds = v → wt g A 0 ds ≤ z
structure Tot (g : Pay) (A : Machine) (i : Nat) (D : Nat → Option Int) : Prop where
  yes : ∀ v z, D v = some z → Most g A i v z
  no : ∀ v, D v = none → ∀ ds, ds.length = i → run A 0 ds ≠ v
theorem Tot.zero (g : Pay) (A : Machine) {D : Nat → Option Int} (h : ∀ v, D v = if v = 0 then some 0 else none) : Tot g A 0 D := by
  refine ⟨fun v z e => ?_, fun v e ds hl q => ?_⟩
  · rw [h] at e
    split at e
    · rename_i c
      have := Option.some.inj e
      subst this; subst c
      refine ⟨⟨[], rfl, rfl, rfl⟩, fun ds hl _ => ?_⟩
      have : ds = [] := List.eq_nil_of_length_eq_zero hl
      subst this
      exact Int.le_refl _
    · cases e
  · have : ds = [] := List.eq_nil_of_length_eq_zero hl
    subst this
    have : v = 0 := q.symm
    rw [h, if_pos this] at e
    cases e
/-! one round more -/
def arcsOf (g : Pay) (A : Machine) (ks : List Nat) : List (Nat × Int × Nat) := ks.flatMap fun s => [(s, pay g 0 (act A s), next A s 0), (s, pay g 1 (act A s), next A s 1)]
theorem mem_arcs {g : Pay} {A : Machine} {ks : List Nat} {s b : Nat} {a : Int} : (s, a, b) ∈ arcsOf g A ks ↔ s ∈ ks ∧ ∃ d, a = pay g d (act A s) ∧ b = next A s d := by
  unfold arcsOf
  rw [List.mem_flatMap]
  constructor
  · rintro ⟨u, hu, h⟩
    rw [List.mem_cons, List.mem_singleton] at h
    rcases h with h | h
    · injection h with h1 h2; injection h2 with h2 h3
      subst h1; exact ⟨hu, 0, h2, h3⟩
    · injection h with h1 h2; injection h2 with h2 h3
      subst h1; exact ⟨hu, 1, h2, h3⟩
  · rintro ⟨hs, d, rfl, rfl⟩
    refine ⟨s, hs, ?_⟩
    by_cases c : d = 0
    · subst c; exact List.mem_cons_self
    · have e1 : next A s d = next A s 1 := by unfold next; rw [if_neg c, if_neg (by decide)]
      have e2 : pay g d (act A s) = pay g 1 (act A s) := by unfold pay; simp [c]
      rw [e1, e2]
      exact List.mem_cons_of_mem _ List.mem_cons_self
def put (F : Nat → Option Int) (b : Nat) (z : Int) : Nat → Option Int := fun v => if v = b then some z else F v
def stepF (D F : Nat → Option Int) (s : Nat) (a : Int) (b : Nat) : Nat → Option Int := match D s with
  | none => F
  | some x => match F b with
    | none => put F b (x + a)
    | some y => if y < x + a then put F b (x + a) else F
structure Bh (D : Nat → Option Int) (P : List (Nat × Int × Nat)) (F : Nat → Option Int) : Prop where
  yes : ∀ b z, F b = some z → (∃ s a x, (s, a, b) ∈ P ∧ D s = some x ∧ x + a = z) ∧ ∀ s a x, (s, a, b) ∈ P → D s = some x → x + a ≤ z
  no : ∀ b, F b = none → ∀ s a, (s, a, b) ∈ P → D s = none
theorem Bh.nil (D : Nat → Option Int) {F : Nat → Option Int} (h : ∀ v, F v = none) : Bh D [] F :=
  ⟨fun b z e => (by rw [h] at e; cases e), fun b _ s a m => (by simp at m)⟩
theorem mem_snoc {α : Type} {x y : α} {l : List α} : x ∈ l ++ [y] ↔ x ∈ l ∨ x = y := by rw [List.mem_append, List.mem_singleton]
theorem Bh.skip {D F : Nat → Option Int} {P : List (Nat × Int × Nat)} (h : Bh D P F) {s b : Nat} {a : Int} (e : D s = none) : Bh D (P ++ [(s, a, b)]) F := by
  refine ⟨fun c z ez => ?_, fun c ez u w m => ?_⟩
  · obtain ⟨⟨u, w, x, m, h1, h2⟩, h3⟩ := h.yes c z ez
    refine ⟨⟨u, w, x, mem_snoc.mpr (.inl m), h1, h2⟩, fun u' w' x' m' h1' => ?_⟩
    rcases mem_snoc.mp m' with m' | m'
    · exact h3 u' w' x' m' h1'
    · injection m' with q1 _
      rw [q1, e] at h1'; cases h1'
  · rcases mem_snoc.mp m with m | m
    · exact h.no c ez u w m
    · injection m with q1 _
      rw [q1]; exact e
theorem Bh.keep {D F : Nat → Option Int} {P : List (Nat × Int × Nat)} (h : Bh D P F) {s b : Nat} {a x y : Int} (e : D s = some x) (f : F b = some y) (l : x + a ≤ y) : Bh D (P ++ [(s, a, b)]) F := by
  refine ⟨fun c z ez => ?_, fun c ez u w m => ?_⟩
  · obtain ⟨⟨u, w, x', m, h1, h2⟩, h3⟩ := h.yes c z ez
    refine ⟨⟨u, w, x', mem_snoc.mpr (.inl m), h1, h2⟩, fun u' w' x'' m' h1' => ?_⟩
    rcases mem_snoc.mp m' with m' | m'
    · exact h3 u' w' x'' m' h1'
    · injection m' with q1 q2; injection q2 with q2 q3
      rw [q1, e] at h1'
      rw [q3, f] at ez
      have := Option.some.inj h1'; have := Option.some.inj ez
      omega
  · rcases mem_snoc.mp m with m | m
    · exact h.no c ez u w m
    · injection m with q1 q2; injection q2 with q2 q3
      rw [q3, f] at ez; cases ez
theorem Bh.put {D F : Nat → Option Int} {P : List (Nat × Int × Nat)} (h : Bh D P F) {s b : Nat} {a x : Int} (e : D s = some x) (l : ∀ y, F b = some y → y < x + a) : Bh D (P ++ [(s, a, b)]) (put F b (x + a)) := by
  refine ⟨fun c z ez => ?_, fun c ez u w m => ?_⟩
  · unfold Gt.put at ez
    split at ez
    · rename_i q
      subst q
      have ez := Option.some.inj ez
      subst ez
      refine ⟨⟨s, a, x, mem_snoc.mpr (.inr rfl), e, rfl⟩, fun u w x' m' h1' => ?_⟩
      rcases mem_snoc.mp m' with m' | m'
      · cases f : F c with
        | none => rw [h.no c f u w m'] at h1'; cases h1'
        | some y =>
          have := (h.yes c y f).2 u w x' m' h1'
          have := l y f
          omega
      · injection m' with q1 q2; injection q2 with q2 q3
        rw [q1, e] at h1'
        have := Option.some.inj h1'
        omega
    · rename_i q
      obtain ⟨⟨u, w, x', m, h1, h2⟩, h3⟩ := h.yes c z ez
      refine ⟨⟨u, w, x', mem_snoc.mpr (.inl m), h1, h2⟩, fun u' w' x'' m' h1' => ?_⟩
      rcases mem_snoc.mp m' with m' | m'
      · exact h3 u' w' x'' m' h1'
      · injection m' with q1 q2; injection q2 with q2 q3
        exact absurd q3 q
  · unfold Gt.put at ez
    split at ez
    · cases ez
    · rename_i q
      rcases mem_snoc.mp m with m | m
      · exact h.no c ez u w m
      · injection m with q1 q2; injection q2 with q2 q3
        exact absurd q3 q
theorem snoc_of {ds : List Nat} {i : Nat} (h : ds.length = i + 1) : ∃ es d, ds = es ++ [d] ∧ es.length = i := by
  have hne : ds ≠ [] := by intro q; rw [q] at h; simp at h
  refine ⟨ds.dropLast, ds.getLast hne, (List.dropLast_concat_getLast hne).symm, ?_⟩
  rw [List.length_dropLast]; omega
theorem Bh.done {g : Pay} {A : Machine} {ks : List Nat} (hk : Rch A ks) {i : Nat} {D F : Nat → Option Int} (hD : Tot g A i D) (h : Bh D (arcsOf g A ks) F) : Tot g A (i + 1) F := by
  have key : ∀ (es : List Nat) (d : Nat), es.length = i → ∃ x, D (run A 0 es) = some x ∧ wt g A 0 es ≤ x ∧ (run A 0 es, pay g d (act A (run A 0 es)), next A (run A 0 es) d) ∈ arcsOf g A ks := by
    intro es d hl
    cases e : D (run A 0 es) with
    | none => exact absurd rfl (hD.no _ e es hl)
    | some x => exact ⟨x, rfl, (hD.yes _ x e).ub es hl rfl, mem_arcs.mpr ⟨(hk.mem _).mpr ⟨es, rfl⟩, d, rfl, rfl⟩⟩
  have w1 : ∀ (es : List Nat) (d : Nat), wt g A 0 (es ++ [d]) = wt g A 0 es + pay g d (act A (run A 0 es)) := by
    intro es d
    rw [wt_append]
    show _ + (pay g d (act A (run A 0 es)) + 0) = _
    omega
  refine ⟨fun v z e => ?_, fun v e ds hl q => ?_⟩
  · obtain ⟨⟨s, a, x, m, h1, h2⟩, h3⟩ := h.yes v z e
    obtain ⟨hs, d, rfl, rfl⟩ := mem_arcs.mp m
    obtain ⟨es, el, er, ew⟩ := (hD.yes s x h1).ex
    refine ⟨⟨es ++ [d], by rw [List.length_append, el]; rfl, by rw [run_append, er]; rfl, by rw [w1, er, ew]; exact h2⟩, fun ds hl hr => ?_⟩
    obtain ⟨fs, d', rfl, fl⟩ := snoc_of hl
    obtain ⟨x', g1, g2, g3⟩ := key fs d' fl
    rw [run_append] at hr
    have hr : next A (run A 0 fs) d' = next A s d := hr
    rw [hr] at g3
    have := h3 _ _ _ g3 g1
    rw [w1]
    omega
  · obtain ⟨fs, d', rfl, fl⟩ := snoc_of hl
    obtain ⟨x', g1, g2, g3⟩ := key fs d' fl
    rw [run_append] at q
    have q : next A (run A 0 fs) d' = v := q
    rw [q] at g3
    rw [h.no v e _ _ g3] at g1
    cases g1
/-! the greatest mean of a closed walk -/
structure Mean (g : Pay) (A : Machine) (p q : Int) : Prop where
  pos : 0 < q
  ex : ∃ s ds, R A s ∧ ds ≠ [] ∧ run A s ds = s ∧ wt g A s ds * q = p * (ds.length : Int)
  ub : ∀ s ds, R A s → run A s ds = s → wt g A s ds * q ≤ p * (ds.length : Int)
/-- from closed walks that aren't long to all -/
theorem all_closed {g : Pay} {A : Machine} {ks : List Nat} (hk : ∀ s, R A s → s ∈ ks) {p q : Int} (h : ∀ s ds, R A s → run A s ds = s → ds.length ≤ ks.length → wt g A s ds * q ≤ p * (ds.length : Int)) :
    ∀ (n : Nat) (s : Nat) (ds : List Nat), ds.length ≤ n → R A s → run A s ds = s → wt g A s ds * q ≤ p * (ds.length : Int) := by
  intro n
  induction n with
  | zero => intro s ds hn hs hc; exact h s ds hs hc (by omega)
  | succ n ih =>
    intro s ds hn hs hc
    by_cases c : ds.length ≤ ks.length
    · exact h s ds hs hc c
    · obtain ⟨a, b, d, e, nb, er, hab⟩ := pump (A := A) (ks := ks) (s := s) (fun es => hk _ (hs.run es)) (ds := ds) (by omega)
      have hb : 0 < b.length := by cases b with | nil => exact absurd rfl nb | cons _ _ => simp
      have hl : ds.length = a.length + (b.length + d.length) := by rw [e, List.length_append, List.length_append]
      have eb : run A (run A s a) b = run A s a := by rw [← run_append, er]
      have ew : wt g A s ds = wt g A s (a ++ d) + wt g A (run A s a) b := by
        rw [e, wt_append, wt_append, wt_append, eb]; omega
      have ec : run A s (a ++ d) = s := by
        have hc := hc
        rw [e, run_append, run_append, eb] at hc
        rw [run_append]; exact hc
      have h1 := ih s (a ++ d) (by rw [List.length_append]; omega) hs ec
      have h2 := ih (run A s a) b (by omega) (hs.run a) eb
      rw [ew, Int.add_mul]
      have h3 : p * (ds.length : Int) = p * ((a ++ d).length : Int) + p * (b.length : Int) := by
        rw [← Int.mul_add]; congr 1; rw [List.length_append]; omega
      omega
/-- w' : what is got beyond the mean -/
def exw (g : Pay) (A : Machine) (p q : Int) (s : Nat) (ds : List Nat) : Int := wt g A s ds * q - p * (ds.length : Int)
theorem exw_append (g : Pay) (A : Machine) (p q : Int) (s : Nat) (a b : List Nat) : exw g A p q s (a ++ b) = exw g A p q s a + exw g A p q (run A s a) b := by
  unfold exw
  rw [wt_append, List.length_append, Int.natCast_add, Int.mul_add, Int.add_mul]
  omega
theorem Mean.closed {g : Pay} {A : Machine} {p q : Int} (h : Mean g A p q) {s : Nat} {ds : List Nat} (hs : R A s) (hc : run A s ds = s) : exw g A p q s ds ≤ 0 := by
  have := h.ub s ds hs hc
  unfold exw; omega
/-- leaving closed parts out gets no less -/
theorem Mean.short {g : Pay} {A : Machine} {p q : Int} (h : Mean g A p q) {ks : List Nat} (hk : Rch A ks) : ∀ (n : Nat) (ds : List Nat), ds.length ≤ n → ∃ es, es.length < ks.length ∧ run A 0 es = run A 0 ds ∧ exw g A p q 0 ds ≤ exw g A p q 0 es := by
  have kp := hk.len_pos
  intro n
  induction n with
  | zero => intro ds hn; exact ⟨ds, by omega, rfl, Int.le_refl _⟩
  | succ n ih =>
    intro ds hn
    by_cases c : ds.length < ks.length
    · exact ⟨ds, c, rfl, Int.le_refl _⟩
    · obtain ⟨a, b, d, e, nb, er, hab⟩ := pump (A := A) (ks := ks) (s := 0) (fun es => (hk.mem _).mpr ⟨es, rfl⟩) (ds := ds) (by omega)
      have hb : 0 < b.length := by cases b with | nil => exact absurd rfl nb | cons _ _ => simp
      have hl : ds.length = a.length + (b.length + d.length) := by rw [e, List.length_append, List.length_append]
      have eb : run A (run A 0 a) b = run A 0 a := by rw [← run_append, er]
      obtain ⟨es, h1, h2, h3⟩ := ih (a ++ d) (by rw [List.length_append]; omega)
      refine ⟨es, h1, ?_, ?_⟩
      · rw [h2, e, run_append, run_append, run_append, eb]
      · have := h.closed (ds := b) ⟨a, rfl⟩ eb
        rw [e, exw_append, exw_append, eb]
        rw [exw_append] at h3
        omega
def rep (C : List Nat) : Nat → List Nat
  | 0 => []
  | n + 1 => C ++ rep C n
theorem rep_run {A : Machine} {s : Nat} {C : List Nat} (h : run A s C = s) : ∀ n, run A s (rep C n) = s
  | 0 => rfl
  | n + 1 => by rw [rep, run_append, h, rep_run h n]
theorem rep_ex {g : Pay} {A : Machine} {p q : Int} {s : Nat} {C : List Nat} (h : run A s C = s) (z : exw g A p q s C = 0) : ∀ n, exw g A p q s (rep C n) = 0
  | 0 => by unfold rep exw wt; simp
  | n + 1 => by rw [rep, exw_append, h, z, rep_ex h z n]; rfl
theorem rep_len {C : List Nat} (h : C ≠ []) : ∀ n, n ≤ (rep C n).length
  | 0 => Nat.zero_le _
  | n + 1 => by
    have := rep_len h n
    have : 0 < C.length := by cases C with | nil => exact absurd rfl h | cons _ _ => simp
    rw [rep, List.length_append]; omega
/-- the greatest of finitely many -/
theorem max_upto (f : Nat → Option Int) : ∀ n, (∃ i, i < n ∧ ∃ z, f i = some z) → ∃ i, i < n ∧ ∃ z, f i = some z ∧ ∀ j, j < n → ∀ y, f j = some y → y ≤ z
  | 0, ⟨i, h, _⟩ => by omega
  | n + 1, h => by
    by_cases c : ∃ i, i < n ∧ ∃ z, f i = some z
    · obtain ⟨i, hi, z, ez, hm⟩ := max_upto f n c
      cases e : f n with
      | none =>
        refine ⟨i, by omega, z, ez, fun j hj y ey => ?_⟩
        by_cases d : j = n
        · rw [d, e] at ey; cases ey
        · exact hm j (by omega) y ey
      | some y0 =>
        by_cases l : y0 ≤ z
        · refine ⟨i, by omega, z, ez, fun j hj y ey => ?_⟩
          by_cases d : j = n
          · rw [d, e] at ey; have := Option.some.inj ey; omega
          · exact hm j (by omega) y ey
        · refine ⟨n, by omega, y0, e, fun j hj y ey => ?_⟩
          by_cases d : j = n
          · rw [d, e] at ey; have := Option.some.inj ey; omega
          · have := hm j (by omega) y ey; omega
    · obtain ⟨i, hi, z, ez⟩ := h
      have hin : i = n := by
        by_cases d : i < n
        · exact absurd ⟨i, d, z, ez⟩ c
        · omega
      subst hin
      refine ⟨i, by omega, z, ez, fun j hj y ey => ?_⟩
      by_cases d : j = i
      · rw [d, ez] at ey; have := Option.some.inj ey; omega
      · exact absurd ⟨j, by omega, y, ey⟩ c
/-- a state behind n rounds, of which no fewer rounds tell more -/
theorem Mean.tight {g : Pay} {A : Machine} {p q : Int} (h : Mean g A p q) {ks : List Nat} (hk : Rch A ks) {Ds : Nat → Nat → Option Int} (hD : ∀ i, i ≤ ks.length → Tot g A i (Ds i)) :
    ∃ v x, Ds ks.length v = some x ∧ ∀ r, r < ks.length → ∀ y, Ds r v = some y → p * ((ks.length : Int) - r) ≤ (x - y) * q := by
  obtain ⟨s, C, hs, nC, hc, hw⟩ := h.ex
  have zC : exw g A p q s C = 0 := by unfold exw; omega
  have qp := h.pos
  -- the best walk to s
  obtain ⟨es0, e0⟩ := hs
  have e1 : ∃ i, i < ks.length ∧ ∃ z, (Ds i s).map (fun z => z * q - p * (i : Int)) = some z := by
    obtain ⟨es, h1, h2, _⟩ := h.short hk es0.length es0 (Nat.le_refl _)
    refine ⟨es.length, h1, ?_⟩
    cases e : Ds es.length s with
    | none => exact absurd (by rw [h2, e0]) ((hD _ (by omega)).no _ e es rfl)
    | some z => exact ⟨_, rfl⟩
  obtain ⟨i, hi, z, ez, hm⟩ := max_upto (fun i => (Ds i s).map (fun z => z * q - p * (i : Int))) ks.length e1
  obtain ⟨x0, ex0, ez⟩ := Option.map_eq_some_iff.mp ez
  obtain ⟨bs, bl, br, bw⟩ := ((hD i (by omega)).yes s x0 ex0).ex
  have opt : ∀ fs, run A 0 fs = s → exw g A p q 0 fs ≤ exw g A p q 0 bs := by
    intro fs hf
    obtain ⟨es, h1, h2, h3⟩ := h.short hk fs.length fs (Nat.le_refl _)
    cases e : Ds es.length s with
    | none => exact absurd (by rw [h2, hf]) ((hD _ (by omega)).no _ e es rfl)
    | some y =>
      have h4 := hm es.length h1 (y * q - p * (es.length : Int)) (by show Option.map _ (Ds es.length s) = _; rw [e]; rfl)
      have h5 := ((hD es.length (by omega)).yes s y e).ub es rfl (by rw [h2, hf])
      have h6 : wt g A 0 es * q ≤ y * q := Int.mul_le_mul_of_nonneg_right h5 (by omega)
      have h7 : exw g A p q 0 bs = z := by unfold exw; rw [bw, bl]; exact ez
      unfold exw at h3 h7 ⊢
      omega
  -- on along the closed walk
  let L := rep C ks.length
  have hL : ks.length ≤ L.length := rep_len nC ks.length
  let e := L.take (ks.length - i)
  let rest := L.drop (ks.length - i)
  have eL : e ++ rest = L := List.take_append_drop _ _
  have lenp : (bs ++ e).length = ks.length := by
    rw [List.length_append, bl, List.length_take]; omega
  have fL : exw g A p q 0 (bs ++ L) = exw g A p q 0 bs := by
    rw [exw_append, br, rep_ex hc zC]; omega
  have rL : run A 0 (bs ++ L) = s := by rw [run_append, br, rep_run hc]
  have optP : ∀ fs, run A 0 fs = run A 0 (bs ++ e) → exw g A p q 0 fs ≤ exw g A p q 0 (bs ++ e) := by
    intro fs hf
    have h1 : run A 0 (fs ++ rest) = s := by
      rw [run_append, hf, ← run_append, List.append_assoc, eL, rL]
    have h2 := opt _ h1
    rw [← fL, ← eL, ← List.append_assoc, exw_append, exw_append (b := rest), hf] at h2
    omega
  refine ⟨run A 0 (bs ++ e), ?_⟩
  cases ev : Ds ks.length (run A 0 (bs ++ e)) with
  | none => exact absurd rfl ((hD _ (Nat.le_refl _)).no _ ev _ lenp)
  | some x =>
    refine ⟨x, rfl, fun r hr y ey => ?_⟩
    obtain ⟨fs, fl, fr, fw⟩ := ((hD r (by omega)).yes _ y ey).ex
    have h1 := optP fs fr
    have h2 := ((hD _ (Nat.le_refl _)).yes _ x ev).ub _ lenp rfl
    have h3 : wt g A 0 (bs ++ e) * q ≤ x * q := Int.mul_le_mul_of_nonneg_right h2 (by omega)
    unfold exw at h1
    rw [lenp, fl, fw] at h1
    rw [Int.mul_sub, Int.sub_mul]
    omega
/-- behind n rounds some fewer ones tell no less -/
theorem Mean.loose {g : Pay} {A : Machine} {p q : Int} (h : Mean g A p q) {ks : List Nat} (hk : Rch A ks) {Ds : Nat → Nat → Option Int} (hD : ∀ i, i ≤ ks.length → Tot g A i (Ds i)) {v : Nat} {x : Int} (e : Ds ks.length v = some x) :
    ∃ r, r < ks.length ∧ ∃ y, Ds r v = some y ∧ (x - y) * q ≤ p * ((ks.length : Int) - r) := by
  obtain ⟨ds, dl, dr, dw⟩ := ((hD _ (Nat.le_refl _)).yes v x e).ex
  obtain ⟨a, b, d, ed, nb, er, hab⟩ := pump (A := A) (ks := ks) (s := 0) (fun es => (hk.mem _).mpr ⟨es, rfl⟩) (ds := ds) (by omega)
  have hb : 0 < b.length := by cases b with | nil => exact absurd rfl nb | cons _ _ => simp
  have hl : ds.length = a.length + (b.length + d.length) := by rw [ed, List.length_append, List.length_append]
  have eb : run A (run A 0 a) b = run A 0 a := by rw [← run_append, er]
  have eac : run A 0 (a ++ d) = v := by
    rw [← dr, ed, run_append, run_append, run_append, eb]
  have ew : wt g A 0 ds = wt g A 0 (a ++ d) + wt g A (run A 0 a) b := by
    rw [ed, wt_append, wt_append, wt_append, eb]; omega
  refine ⟨(a ++ d).length, by rw [List.length_append]; omega, ?_⟩
  cases ey : Ds (a ++ d).length v with
  | none => exact absurd eac ((hD _ (by rw [List.length_append]; omega)).no v ey _ rfl)
  | some y =>
    refine ⟨y, rfl, ?_⟩
    have h1 := ((hD _ (by rw [List.length_append]; omega)).yes v y ey).ub _ rfl eac
    have h2 := h.ub (run A 0 a) b ⟨a, rfl⟩ eb
    have qp := h.pos
    have h3 : (x - y) * q ≤ wt g A (run A 0 a) b * q := Int.mul_le_mul_of_nonneg_right (by omega) (by omega)
    have h4 : ((ks.length : Int) - ((a ++ d).length : Nat)) = (b.length : Int) := by rw [List.length_append]; omega
    rw [h4]
    omega
/-- the least by the round, of one state -/
structure Lby (Ds : Nat → Nat → Option Int) (n v : Nat) (a b : Int) : Prop where
  ex : ∃ r, r < n ∧ ∃ x y, Ds n v = some x ∧ Ds r v = some y ∧ a = x - y ∧ b = (n : Int) - r
  lb : ∀ r, r < n → ∀ x y, Ds n v = some x → Ds r v = some y → a * ((n : Int) - r) ≤ (x - y) * b
structure Karp (Ds : Nat → Nat → Option Int) (n : Nat) (a b : Int) : Prop where
  ex : ∃ v, Lby Ds n v a b
  ub : ∀ v x, Ds n v = some x → ∃ a' b', Lby Ds n v a' b' ∧ a' * b ≤ a * b'
theorem Lby.pos {Ds : Nat → Nat → Option Int} {n v : Nat} {a b : Int} (h : Lby Ds n v a b) : 0 < b := by
  obtain ⟨r, hr, x, y, _, _, _, rfl⟩ := h.ex
  omega
theorem cancel_le {a b c : Int} (hc : 0 < c) (h : a * c ≤ b * c) : a ≤ b := Int.le_of_mul_le_mul_right h hc
theorem Karp.is {g : Pay} {A : Machine} {p q : Int} (h : Mean g A p q) {ks : List Nat} (hk : Rch A ks) {Ds : Nat → Nat → Option Int} (hD : ∀ i, i ≤ ks.length → Tot g A i (Ds i)) {a b : Int} (H : Karp Ds ks.length a b) :
    0 < b ∧ p * b = a * q := by
  obtain ⟨v, L⟩ := H.ex
  have bp := L.pos
  have qp := h.pos
  refine ⟨bp, Int.le_antisymm ?_ ?_⟩
  · obtain ⟨u, x, eu, hu⟩ := h.tight hk hD
    obtain ⟨a', b', L', hle⟩ := H.ub u x eu
    have bp' := L'.pos
    obtain ⟨r, hr, x', y, ex, ey, ea, eb⟩ := L'.ex
    rw [eu] at ex
    have ex := Option.some.inj ex
    have h1 := hu r hr y ey
    rw [← eb] at h1
    rw [show x - y = a' by omega] at h1
    -- p b' ≤ a' q ; a' b ≤ a b'
    apply cancel_le bp'
    have h2 : p * b' * b ≤ a' * q * b := Int.mul_le_mul_of_nonneg_right h1 (by omega)
    have h3 : a' * b * q ≤ a * b' * q := Int.mul_le_mul_of_nonneg_right hle (by omega)
    calc p * b * b' = p * b' * b := by rw [Int.mul_assoc, Int.mul_comm b b', ← Int.mul_assoc]
      _ ≤ a' * q * b := h2
      _ = a' * b * q := by rw [Int.mul_assoc, Int.mul_comm q b, ← Int.mul_assoc]
      _ ≤ a * b' * q := h3
      _ = a * q * b' := by rw [Int.mul_assoc, Int.mul_comm b' q, ← Int.mul_assoc]
  · obtain ⟨r0, hr0, x, y0, ex, _, _, _⟩ := L.ex
    obtain ⟨r, hr, y, ey, hle⟩ := h.loose hk hD ex
    have h1 := L.lb r hr x y ex ey
    have np : 0 < (ks.length : Int) - r := by omega
    apply cancel_le np
    have h2 : a * ((ks.length : Int) - r) * q ≤ (x - y) * b * q := Int.mul_le_mul_of_nonneg_right h1 (by omega)
    have h3 : (x - y) * q * b ≤ p * ((ks.length : Int) - r) * b := Int.mul_le_mul_of_nonneg_right hle (by omega)
    calc a * q * ((ks.length : Int) - r) = a * ((ks.length : Int) - r) * q := by rw [Int.mul_assoc, Int.mul_comm q, ← Int.mul_assoc]
      _ ≤ (x - y) * b * q := h2
      _ = (x - y) * q * b := by rw [Int.mul_assoc, Int.mul_comm b q, ← Int.mul_assoc]
      _ ≤ p * ((ks.length : Int) - r) * b := h3
      _ = p * b * ((ks.length : Int) - r) := by rw [Int.mul_assoc, Int.mul_comm _ b, ← Int.mul_assoc]
end Gt
/-! ## GtLowest -/
namespace Gt
open Rc89
/-! the specification's best is the greatest mean; lowest terms -/
theorem gain_zero (g : Pay) (A : Machine) (t s : Nat) (hs : s < A.length) : (gain g A t 0).getD s none = if s = t then some 0 else none := by
  show (((List.range A.length).map fun (s : Nat) => if s = t then some (0 : Int) else none)).getD s none = _
  rw [getD_map _ _ s none s (List.getElem?_range hs)]
theorem gain_succ (g : Pay) (A : Machine) (t k s : Nat) (hs : s < A.length) : (gain g A t (k + 1)).getD s none =
    greater (((gain g A t k).getD (next A s 0) none).map fun (z : Int) => z + pay g 0 (act A s)) (((gain g A t k).getD (next A s 1) none).map fun (z : Int) => z + pay g 1 (act A s)) := by
  show (((List.range A.length).map fun (s : Nat) => greater (((gain g A t k).getD (next A s 0) none).map fun (z : Int) => z + pay g 0 (act A s)) (((gain g A t k).getD (next A s 1) none).map fun (z : Int) => z + pay g 1 (act A s)))).getD s none = _
  rw [getD_map _ _ s none s (List.getElem?_range hs)]
structure Gn (g : Pay) (A : Machine) (t k s : Nat) (o : Option Int) : Prop where
  yes : ∀ z, o = some z → (∃ ds, ds.length = k ∧ run A s ds = t ∧ wt g A s ds = z) ∧ ∀ ds, ds.length = k → run A s ds = t → wt g A s ds ≤ z
  no : o = none → ∀ ds, ds.length = k → run A s ds ≠ t
theorem norm_d (g : Pay) (A : Machine) (s d : Nat) : (d = 0) ∨ (next A s d = next A s 1 ∧ pay g d (act A s) = pay g 1 (act A s)) := by
  by_cases c : d = 0
  · exact .inl c
  · exact .inr ⟨by unfold next; rw [if_neg c, if_neg (by decide)], by unfold pay; simp [c]⟩
theorem gain_is {g : Pay} {A : Machine} (o : Ok A) (t : Nat) : ∀ (k s : Nat), s < A.length → Gn g A t k s ((gain g A t k).getD s none)
  | 0, s, hs => by
    rw [gain_zero g A t s hs]
    refine ⟨fun z e => ?_, fun e ds hl q => ?_⟩
    · split at e
      · rename_i c
        have := Option.some.inj e
        subst this
        refine ⟨⟨[], rfl, c, rfl⟩, fun ds hl _ => ?_⟩
        have : ds = [] := List.eq_nil_of_length_eq_zero hl
        subst this; exact Int.le_refl _
      · cases e
    · have : ds = [] := List.eq_nil_of_length_eq_zero hl
      subst this
      have : s = t := q
      rw [if_pos this] at e; cases e
  | k + 1, s, hs => by
    rw [gain_succ g A t k s hs]
    have h0 := gain_is (g := g) o t k (next A s 0) (o.next_lt s 0)
    have h1 := gain_is (g := g) o t k (next A s 1) (o.next_lt s 1)
    revert h0 h1
    generalize (gain g A t k).getD (next A s 0) none = v0
    generalize (gain g A t k).getD (next A s 1) none = v1
    intro h0 h1
    have cs : ∀ ds : List Nat, ds.length = k + 1 → ∃ d es, ds = d :: es ∧ es.length = k := by
      intro ds hl
      cases ds with
      | nil => simp at hl
      | cons d es => exact ⟨d, es, rfl, by simpa using hl⟩
    have nw : ∀ (d : Nat) (es : List Nat), wt g A s (d :: es) = pay g d (act A s) + wt g A (next A s d) es := fun _ _ => rfl
    have nr : ∀ (d : Nat) (es : List Nat), run A s (d :: es) = run A (next A s d) es := fun _ _ => rfl
    refine ⟨fun z e => ?_, fun e ds hl q => ?_⟩
    · have ub : ∀ ds, ds.length = k + 1 → run A s ds = t → wt g A s ds ≤ z := by
        intro ds hl hr
        obtain ⟨d, es, rfl, el⟩ := cs ds hl
        rw [nr] at hr
        rw [nw]
        rcases norm_d g A s d with rfl | ⟨q1, q2⟩
        · cases ev : v0 with
          | none => exact absurd hr (h0.no ev es el)
          | some x =>
            have := (h0.yes x ev).2 es el hr
            rw [ev] at e
            cases ev1 : v1 with
            | none => rw [ev1] at e; simp [greater] at e; omega
            | some y => rw [ev1] at e; simp [greater] at e; omega
        · rw [q1] at hr ⊢
          rw [q2]
          cases ev : v1 with
          | none => exact absurd hr (h1.no ev es el)
          | some x =>
            have := (h1.yes x ev).2 es el hr
            rw [ev] at e
            cases ev1 : v0 with
            | none => rw [ev1] at e; simp [greater] at e; omega
            | some y => rw [ev1] at e; simp [greater] at e; omega
      refine ⟨?_, ub⟩
      have from0 : ∀ x, v0 = some x → z = x + pay g 0 (act A s) → ∃ ds, ds.length = k + 1 ∧ run A s ds = t ∧ wt g A s ds = z := by
        intro x ev ez
        obtain ⟨es, el, er, ew⟩ := (h0.yes x ev).1
        exact ⟨0 :: es, by simp [el], er, by rw [nw, ew, ez]; omega⟩
      have from1 : ∀ x, v1 = some x → z = x + pay g 1 (act A s) → ∃ ds, ds.length = k + 1 ∧ run A s ds = t ∧ wt g A s ds = z := by
        intro x ev ez
        obtain ⟨es, el, er, ew⟩ := (h1.yes x ev).1
        exact ⟨1 :: es, by simp [el], er, by rw [nw, ew, ez]; omega⟩
      cases ev0 : v0 with
      | none =>
        cases ev1 : v1 with
        | none => rw [ev0, ev1] at e; simp [greater] at e
        | some y => rw [ev0, ev1] at e; simp [greater] at e; exact from1 y ev1 (by omega)
      | some x =>
        cases ev1 : v1 with
        | none => rw [ev0, ev1] at e; simp [greater] at e; exact from0 x ev0 (by omega)
        | some y =>
          rw [ev0, ev1] at e; simp [greater] at e
          by_cases c : x + pay g 0 (act A s) ≤ y + pay g 1 (act A s)
          · exact from1 y ev1 (by omega)
          · exact from0 x ev0 (by omega)
    · obtain ⟨d, es, rfl, el⟩ := cs ds hl
      rw [nr] at q
      cases ev0 : v0 with
      | none =>
        cases ev1 : v1 with
        | none =>
          rcases norm_d g A s d with rfl | ⟨q1, _⟩
          · exact h0.no ev0 es el q
          · rw [q1] at q; exact h1.no ev1 es el q
        | some y => rw [ev0, ev1] at e; simp [greater] at e
      | some x =>
        cases ev1 : v1 with
        | none => rw [ev0, ev1] at e; simp [greater] at e
        | some y => rw [ev0, ev1] at e; simp [greater] at e
theorem mem_turns {g : Pay} {A : Machine} {z : Int} {m : Nat} : (z, m) ∈ turns g A ↔ ∃ s, s ∈ reached A ∧ ∃ k, k < A.length ∧ (gain g A s (k + 1)).getD s none = some z ∧ m = k + 1 := by
  unfold turns
  rw [List.mem_flatMap]
  constructor
  · rintro ⟨s, hs, h⟩
    rw [List.mem_filterMap] at h
    obtain ⟨k, hk, e⟩ := h
    obtain ⟨y, e1, e2⟩ := Option.map_eq_some_iff.mp e
    injection e2 with q1 q2
    exact ⟨s, hs, k, List.mem_range.mp hk, by rw [e1, q1], q2.symm⟩
  · rintro ⟨s, hs, k, hk, e, rfl⟩
    refine ⟨s, hs, ?_⟩
    rw [List.mem_filterMap]
    exact ⟨k, List.mem_range.mpr hk, by rw [e]; rfl⟩
/-- the greatest by the round -/
theorem fold_over : ∀ (l : List (Int × Nat)) (x : Int × Nat), 0 < x.2 → (∀ y ∈ l, 0 < y.2) → ((l.foldl over x) = x ∨ (l.foldl over x) ∈ l) ∧ 0 < (l.foldl over x).2 ∧ (∀ y, y = x ∨ y ∈ l → y.1 * ((l.foldl over x).2 : Int) ≤ (l.foldl over x).1 * (y.2 : Int))
  | [], x, hx, _ => ⟨.inl rfl, hx, fun y h => by
      rcases h with rfl | h
      · exact Int.le_refl _
      · simp at h⟩
  | a :: l, x, hx, hl => by
    have ha := hl a List.mem_cons_self
    have hl' : ∀ y ∈ l, 0 < y.2 := fun y hy => hl y (List.mem_cons_of_mem _ hy)
    have tr : ∀ u v w : Int × Nat, 0 < v.2 → u.1 * (v.2 : Int) ≤ v.1 * (u.2 : Int) → v.1 * (w.2 : Int) ≤ w.1 * (v.2 : Int) → u.1 * (w.2 : Int) ≤ w.1 * (u.2 : Int) := by
      intro u v w hv h1 h2
      apply cancel_le (c := (v.2 : Int)) (by omega)
      have a1 : u.1 * (v.2 : Int) * (w.2 : Int) ≤ v.1 * (u.2 : Int) * (w.2 : Int) := Int.mul_le_mul_of_nonneg_right h1 (by omega)
      have a2 : v.1 * (w.2 : Int) * (u.2 : Int) ≤ w.1 * (v.2 : Int) * (u.2 : Int) := Int.mul_le_mul_of_nonneg_right h2 (by omega)
      calc u.1 * (w.2 : Int) * (v.2 : Int) = u.1 * (v.2 : Int) * (w.2 : Int) := by rw [Int.mul_assoc, Int.mul_comm (w.2 : Int), ← Int.mul_assoc]
        _ ≤ v.1 * (u.2 : Int) * (w.2 : Int) := a1
        _ = v.1 * (w.2 : Int) * (u.2 : Int) := by rw [Int.mul_assoc, Int.mul_comm (u.2 : Int), ← Int.mul_assoc]
        _ ≤ w.1 * (v.2 : Int) * (u.2 : Int) := a2
        _ = w.1 * (u.2 : Int) * (v.2 : Int) := by rw [Int.mul_assoc, Int.mul_comm (v.2 : Int), ← Int.mul_assoc]
    rw [List.foldl_cons]
    by_cases c : x.1 * (a.2 : Int) < a.1 * (x.2 : Int)
    · have e : over x a = a := if_pos c
      rw [e]
      obtain ⟨h1, h2, h3⟩ := fold_over l a ha hl'
      refine ⟨?_, h2, fun y hy => ?_⟩
      · rcases h1 with h1 | h1
        · right; rw [h1]; exact List.mem_cons_self
        · right; exact List.mem_cons_of_mem _ h1
      · rcases hy with rfl | hy
        · exact tr y a _ ha (by omega) (h3 a (.inl rfl))
        · rcases List.mem_cons.mp hy with rfl | hy
          · exact h3 _ (.inl rfl)
          · exact h3 y (.inr hy)
    · have e : over x a = x := if_neg c
      rw [e]
      obtain ⟨h1, h2, h3⟩ := fold_over l x hx hl'
      refine ⟨?_, h2, fun y hy => ?_⟩
      · rcases h1 with h1 | h1
        · left; exact h1
        · right; exact List.mem_cons_of_mem _ h1
      · rcases hy with rfl | hy
        · exact h3 _ (.inl rfl)
        · rcases List.mem_cons.mp hy with rfl | hy
          · exact tr y x _ hx (by omega) (h3 x (.inl rfl))
          · exact h3 y (.inr hy)
theorem best_mean {g : Pay} {A : Machine} (o : Ok A) : ∃ p : Int × Nat, best g A = lowest p ∧ Mean g A p.1 p.2 ∧ 0 < p.2 := by
  have hne : turns g A ≠ [] := by
    obtain ⟨a, b, c, e, nb, er, hab⟩ := pump (A := A) (ks := List.range A.length) (s := 0) (fun es => List.mem_range.mpr (o.run_lt es 0 o.pos)) (ds := List.replicate A.length 0) (by simp)
    have hb : 0 < b.length := by cases b with | nil => exact absurd rfl nb | cons _ _ => simp
    rw [List.length_range] at hab
    have hR : R A (run A 0 a) := ⟨a, rfl⟩
    have eb : run A (run A 0 a) b = run A 0 a := by rw [← run_append, er]
    have gn := gain_is (g := g) o (run A 0 a) b.length (run A 0 a) (hR.lt o)
    cases ev : (gain g A (run A 0 a) b.length).getD (run A 0 a) none with
    | none => exact absurd eb (gn.no ev b rfl)
    | some z =>
      intro q
      have : (z, b.length) ∈ turns g A := mem_turns.mpr ⟨run A 0 a, (mem_reached o _).mpr hR, b.length - 1, by omega, by rw [show b.length - 1 + 1 = b.length by omega]; exact ev, by omega⟩
      rw [q] at this; simp at this
  unfold best
  cases et : turns g A with
  | nil => exact absurd et hne
  | cons x l =>
    have hpos : ∀ y ∈ turns g A, 0 < y.2 := by
      rintro ⟨z, m⟩ hy
      obtain ⟨s, _, k, _, _, rfl⟩ := mem_turns.mp hy
      exact Nat.succ_pos _
    rw [et] at hpos
    obtain ⟨h1, h2, h3⟩ := fold_over l x (hpos x List.mem_cons_self) (fun y hy => hpos y (List.mem_cons_of_mem _ hy))
    refine ⟨l.foldl over x, rfl, ?_, h2⟩
    generalize hm : l.foldl over x = m at h1 h2 h3
    obtain ⟨p, q⟩ := m
    have hmem : (p, q) ∈ turns g A := by
      rw [et]
      rcases h1 with h1 | h1
      · rw [h1]; exact List.mem_cons_self
      · exact List.mem_cons_of_mem _ h1
    obtain ⟨s, hs, k, hk, eg, rfl⟩ := mem_turns.mp hmem
    have hsR := (mem_reached o s).mp hs
    have gn := gain_is (g := g) o s (k + 1) s (hsR.lt o)
    obtain ⟨ds, dl, dr, dw⟩ := (gn.yes p eg).1
    refine ⟨by show (0 : Int) < ((k + 1 : Nat) : Int); omega, ⟨s, ds, hsR, by intro q; rw [q] at dl; simp at dl, dr, by show wt g A s ds * ((k + 1 : Nat) : Int) = p * (ds.length : Int); rw [dw, dl]⟩, ?_⟩
    intro u es hu ec
    refine all_closed (g := g) (A := A) (ks := List.range A.length) (fun s hs => List.mem_range.mpr (hs.lt o)) ?_ es.length u es (Nat.le_refl _) hu ec
    intro u es hu ec hl
    rw [List.length_range] at hl
    show wt g A u es * ((k + 1 : Nat) : Int) ≤ p * (es.length : Int)
    rcases Nat.eq_zero_or_pos es.length with z | z
    · have : es = [] := List.eq_nil_of_length_eq_zero z
      subst this
      simp [wt]
    · have gu := gain_is (g := g) o u es.length u (hu.lt o)
      cases ev : (gain g A u es.length).getD u none with
      | none => exact absurd ec (gu.no ev es rfl)
      | some y =>
        have hy : (y, es.length) ∈ turns g A := mem_turns.mpr ⟨u, (mem_reached o u).mpr hu, es.length - 1, by omega, by rw [show es.length - 1 + 1 = es.length by omega]; exact ev, by omega⟩
        rw [et, List.mem_cons] at hy
        have h4 := h3 _ hy
        have h5 := (gu.yes y ev).2 es rfl ec
        have h6 : wt g A u es * ((k + 1 : Nat) : Int) ≤ y * ((k + 1 : Nat) : Int) := Int.mul_le_mul_of_nonneg_right h5 (by omega)
        exact Int.le_trans h6 h4
/-! lowest terms -/
theorem lowest_eq {p a : Int} {q b : Nat} (hq : 0 < q) (hb : 0 < b) (e : p * (b : Int) = a * (q : Int)) : lowest (p, q) = lowest (a, b) := by
  unfold lowest
  show (p / ((Nat.gcd p.natAbs q : Nat) : Int), q / Nat.gcd p.natAbs q) = (a / ((Nat.gcd a.natAbs b : Nat) : Int), b / Nat.gcd a.natAbs b)
  have g1 : 0 < Nat.gcd p.natAbs q := Nat.gcd_pos_of_pos_right _ hq
  have g2 : 0 < Nat.gcd a.natAbs b := Nat.gcd_pos_of_pos_right _ hb
  have dp : ((Nat.gcd p.natAbs q : Nat) : Int) ∣ p := Int.ofNat_dvd_left.mpr (Nat.gcd_dvd_left _ _)
  have da : ((Nat.gcd a.natAbs b : Nat) : Int) ∣ a := Int.ofNat_dvd_left.mpr (Nat.gcd_dvd_left _ _)
  have dq : Nat.gcd p.natAbs q ∣ q := Nat.gcd_dvd_right _ _
  have db : Nat.gcd a.natAbs b ∣ b := Nat.gcd_dvd_right _ _
  have c1 : Nat.Coprime (p.natAbs / Nat.gcd p.natAbs q) (q / Nat.gcd p.natAbs q) := Nat.coprime_div_gcd_div_gcd g1
  have c2 : Nat.Coprime (a.natAbs / Nat.gcd a.natAbs b) (b / Nat.gcd a.natAbs b) := Nat.coprime_div_gcd_div_gcd g2
  have en : p.natAbs * b = a.natAbs * q := by
    have := congrArg Int.natAbs e
    rw [Int.natAbs_mul, Int.natAbs_mul, Int.natAbs_natCast, Int.natAbs_natCast] at this
    exact this
  revert g1 g2 dp da dq db c1 c2
  generalize Nat.gcd p.natAbs q = d1
  generalize Nat.gcd a.natAbs b = d2
  intro g1 g2 dp da dq db c1 c2
  obtain ⟨p', hp⟩ := dp
  obtain ⟨a', ha⟩ := da
  obtain ⟨q', hq'⟩ := dq
  obtain ⟨b', hb'⟩ := db
  subst hp ha hq' hb'
  have n1 : ((d1 : Int) * p').natAbs = d1 * p'.natAbs := by rw [Int.natAbs_mul, Int.natAbs_natCast]
  have n2 : ((d2 : Int) * a').natAbs = d2 * a'.natAbs := by rw [Int.natAbs_mul, Int.natAbs_natCast]
  rw [n1, Nat.mul_div_cancel_left _ g1, Nat.mul_div_cancel_left _ g1] at c1
  rw [n2, Nat.mul_div_cancel_left _ g2, Nat.mul_div_cancel_left _ g2] at c2
  rw [n1, n2] at en
  have en2 : p'.natAbs * b' = a'.natAbs * q' := by
    apply Nat.eq_of_mul_eq_mul_left (Nat.mul_pos g1 g2)
    calc d1 * d2 * (p'.natAbs * b') = d1 * p'.natAbs * (d2 * b') := by simp [Nat.mul_comm, Nat.mul_left_comm, Nat.mul_assoc]
      _ = d2 * a'.natAbs * (d1 * q') := en
      _ = d1 * d2 * (a'.natAbs * q') := by simp [Nat.mul_comm, Nat.mul_left_comm, Nat.mul_assoc]
  have qb : q' = b' := by
    apply Nat.dvd_antisymm
    · exact Nat.Coprime.dvd_of_dvd_mul_left (Nat.Coprime.symm c1) ⟨a'.natAbs, by rw [en2, Nat.mul_comm]⟩
    · exact Nat.Coprime.dvd_of_dvd_mul_left (Nat.Coprime.symm c2) ⟨p'.natAbs, by rw [← en2, Nat.mul_comm]⟩
  subst qb
  have q0 : 0 < q' := Nat.pos_of_mul_pos_left hq
  have e3 : p' = a' := by
    have h1 : ((d1 : Int) * d2 * q') ≠ 0 := by
      have : (0 : Int) < (d1 : Int) * d2 * q' := Int.mul_pos (Int.mul_pos (by omega) (by omega)) (by omega)
      omega
    apply Int.eq_of_mul_eq_mul_right h1
    have e' := e
    rw [Int.natCast_mul, Int.natCast_mul] at e'
    calc p' * ((d1 : Int) * d2 * q') = (d1 : Int) * p' * ((d2 : Int) * q') := by simp [Int.mul_comm, Int.mul_left_comm, Int.mul_assoc]
      _ = (d2 : Int) * a' * ((d1 : Int) * q') := e'
      _ = a' * ((d1 : Int) * d2 * q') := by simp [Int.mul_comm, Int.mul_left_comm, Int.mul_assoc]
  rw [Int.mul_ediv_cancel_left _ (by omega), Int.mul_ediv_cancel_left _ (by omega), Nat.mul_div_cancel_left _ g1, Nat.mul_div_cancel_left _ g2, e3]
theorem best_is {g : Pay} {A : Machine} (o : Ok A) {ks : List Nat} (hk : Rch A ks) {Ds : Nat → Nat → Option Int} (hD : ∀ i, i ≤ ks.length → Tot g A i (Ds i)) {a : Int} {b : Nat} (H : Karp Ds ks.length a b) :
    0 < b ∧ best g A = lowest (a, b) := by
  obtain ⟨⟨p, q⟩, e, hm, hq⟩ := best_mean (g := g) o
  obtain ⟨h1, h2⟩ := H.is hm hk hD
  refine ⟨by omega, ?_⟩
  rw [e]
  exact lowest_eq hq (by omega) h2
end Gt
/-! ## GtParse -/
namespace Gt
open Rc89
/-! the calls, one behind another -/
inductive Asked : Int → List Int → List Int → Rc89.Call → Prop
  | init : Asked 0 [] [] .init
  | pay (a b c d : Int) : Asked 1 [a, b, c, d] [] (.pay a b c d)
  | machine (i : Int) (ss : List Int) : (∀ z ∈ ss, 0 ≤ z ∧ z ≤ 255) → ss.length ≤ 48 → Asked 2 [i] ss (.machine i (ss.map Int.toNat) ss.length)
  | play (i j k : Int) : 0 ≤ k → Asked 3 [i, j, k] [] (.play i j k.toNat)
  | turn (i j : Int) : Asked 4 [i, j] [] (.turn i j)
  | moves (i j m : Int) : Asked 5 [i, j, m] [] (.moves i j m)
  | same (i j : Int) : Asked 6 [i, j] [] (.same i j)
  | least (i : Int) : Asked 7 [i] [] (.least i)
  | best (i : Int) : Asked 8 [i] [] (.best i)
/-- how many whole numbers -/
def cnt (p : Int) : Nat := [0, 4, 1, 3, 2, 3, 2, 1, 1].getD p.toNat 0
inductive Reads : List Int → List Rc89.Call → Prop
  | nil : Reads [] []
  | plain {p : Int} {xs t : List Int} {x : Rc89.Call} {cs : List Rc89.Call} : p ≠ 2 → Asked p xs [] x → Reads t cs → Reads (p :: (xs ++ t)) (x :: cs)
  | made {i : Int} {ss t : List Int} {x : Rc89.Call} {cs : List Rc89.Call} : Asked 2 [i] ss x → Reads t cs → Reads (2 :: i :: (ss.length : Int) :: (ss ++ t)) (x :: cs)
def ans (y : Ans) : List Int := y.value :: y.numbers.map fun (b : Nat) => (b : Int)
def played : Abs → List Rc89.Call → List (List Int)
  | _, [] => []
  | s, x :: cs => ans (does s x).2 :: played (does s x).1 cs
theorem len_cases {xs : List Int} {n : Nat} (h : xs.length = n) : (n = 0 → xs = []) ∧ (n = 1 → ∃ a, xs = [a]) ∧ (n = 2 → ∃ a b, xs = [a, b]) ∧ (n = 3 → ∃ a b c, xs = [a, b, c]) ∧ (n = 4 → ∃ a b c d, xs = [a, b, c, d]) := by
  subst h
  match xs with
  | [] => simp
  | [a] => simp
  | [a, b] => simp
  | [a, b, c] => simp
  | [a, b, c, d] => simp
  | a :: b :: c :: d :: e :: r => simp
theorem one_of {p : Int} {n k : Nat} (h : PyRc89.shape p = some (n, k)) : (p = 0 ∧ n = 0 ∧ k = 0) ∨ (p = 1 ∧ n = 4 ∧ k = 0) ∨ (p = 2 ∧ n = 1 ∧ k = 1) ∨ (p = 3 ∧ n = 3 ∧ k = 0) ∨ (p = 4 ∧ n = 2 ∧ k = 0) ∨ (p = 5 ∧ n = 3 ∧ k = 0) ∨ (p = 6 ∧ n = 2 ∧ k = 0) ∨ (p = 7 ∧ n = 1 ∧ k = 0) ∨ (p = 8 ∧ n = 1 ∧ k = 0) := by
  unfold PyRc89.shape at h
  repeat' split at h
  all_goals first | (cases h; simp_all; done) | cases h
/-- one call: read, and its step -/
theorem call_of {l t : List Int} {c : List (List Int)} (h : PyFlat.call PyRc89.shape l = some (c, t)) (hb : PyInside.call PyRc89.bound c = true) :
    ∃ p xs ss x, Asked p xs ss x ∧ ((p ≠ 2 ∧ ss = [] ∧ l = p :: (xs ++ t)) ∨ (p = 2 ∧ ∃ i, xs = [i] ∧ l = 2 :: i :: (ss.length : Int) :: (ss ++ t))) ∧ Rc89Neutral.callOf (PyRc89.whole c) = some x := by
  match l, h with
  | [], h => simp [PyFlat.call] at h
  | p :: r, h =>
    rw [PyFlat.call] at h
    cases es : PyRc89.shape p with
    | none => rw [es] at h; simp at h
    | some nk =>
      obtain ⟨n, k⟩ := nk
      rw [es] at h
      dsimp only at h
      split at h
      · cases h
      · rename_i hlen
        have tk : (r.take n).length = n := by rw [List.length_take]; omega
        have er : r = r.take n ++ r.drop n := (List.take_append_drop n r).symm
        have lc := len_cases tk
        have plain : k = 0 → c = [p :: r.take n] ∧ t = r.drop n := by
          intro hk
          subst hk
          rw [PyFlat.rows] at h
          have h := Option.some.inj h
          injection h with h1 h2
          exact ⟨h1.symm, h2.symm⟩
        have hb' : k = 0 → PyInside.each (PyRc89.bound p).1 (r.take n) = true := by
          intro hk
          rw [(plain hk).1] at hb
          unfold PyInside.call at hb
          dsimp only at hb
          rw [Bool.and_eq_true] at hb
          exact hb.1
        rcases one_of es with ⟨rfl, rfl, rfl⟩ | ⟨rfl, rfl, rfl⟩ | ⟨rfl, rfl, rfl⟩ | ⟨rfl, rfl, rfl⟩ | ⟨rfl, rfl, rfl⟩ | ⟨rfl, rfl, rfl⟩ | ⟨rfl, rfl, rfl⟩ | ⟨rfl, rfl, rfl⟩ | ⟨rfl, rfl, rfl⟩
        · obtain ⟨h1, h2⟩ := plain rfl
          have e := lc.1 rfl
          rw [h1, h2]
          refine ⟨0, r.take 0, [], .init, by rw [e]; exact .init, .inl ⟨by decide, rfl, by rw [← er]⟩, by rw [e]; rfl⟩
        · obtain ⟨rfl, rfl⟩ := plain rfl
          obtain ⟨a, b, c, d, e⟩ := lc.2.2.2.2 rfl
          refine ⟨1, r.take 4, [], .pay a b c d, by rw [e]; exact .pay a b c d, .inl ⟨by decide, rfl, by rw [← er]⟩, by rw [e]; rfl⟩
        · -- a machine
          obtain ⟨i, e⟩ := lc.2.1 rfl
          rw [PyFlat.rows] at h
          cases hr : PyFlat.row (r.drop 1) with
          | none => rw [hr] at h; simp at h
          | some xs =>
            obtain ⟨x, s⟩ := xs
            rw [hr] at h
            dsimp only at h
            rw [PyFlat.rows] at h
            have h := Option.some.inj h
            injection h with h1 h2
            subst h1 h2
            cases ed : r.drop 1 with
            | nil => rw [ed] at hr; simp [PyFlat.row] at hr
            | cons m r2 =>
              rw [ed, PyFlat.row] at hr
              split at hr
              · rename_i hm
                have hr := Option.some.inj hr
                injection hr with h3 h4
                subst h3 h4
                rw [e] at hb ⊢
                unfold PyInside.call at hb
                dsimp only at hb
                rw [Bool.and_eq_true] at hb
                have hl := hb.2
                have hl : PyInside.lists [(0, 255, 0, 48)] [r2.take m.toNat] = true := hl
                unfold PyInside.lists at hl
                rw [Bool.and_eq_true, Bool.and_eq_true, Bool.and_eq_true, decide_eq_true_eq, decide_eq_true_eq, List.all_eq_true] at hl
                have hlen2 : (r2.take m.toNat).length = m.toNat := by rw [List.length_take]; omega
                refine ⟨2, [i], r2.take m.toNat, _, .machine i (r2.take m.toNat) ?_ hl.1.1.2, .inr ⟨rfl, i, rfl, ?_⟩, rfl⟩
                · intro z hz
                  have := hl.1.2 z hz
                  unfold PyInside.within at this
                  rw [Bool.and_eq_true, decide_eq_true_eq, decide_eq_true_eq] at this
                  exact this
                · rw [er, e, ed, hlen2, List.take_append_drop]
                  show _ = (2 : Int) :: i :: ((m.toNat : Nat) : Int) :: r2
                  rw [Int.toNat_of_nonneg hm.1]
                  rfl
              · cases hr
        · obtain ⟨rfl, rfl⟩ := plain rfl
          obtain ⟨a, b, c, e⟩ := lc.2.2.2.1 rfl
          have hk := hb' rfl
          rw [e] at hk
          have hk : (PyInside.within (-2147483648) 2147483647 a && (PyInside.within (-2147483648) 2147483647 b && (PyInside.within 0 18446744073709551615 c && true))) = true := hk
          rw [Bool.and_eq_true, Bool.and_eq_true, Bool.and_eq_true] at hk
          have hk := hk.2.2.1
          unfold PyInside.within at hk
          rw [Bool.and_eq_true, decide_eq_true_eq] at hk
          refine ⟨3, r.take 3, [], .play a b c.toNat, by rw [e]; exact .play a b c hk.1, .inl ⟨by decide, rfl, by rw [← er]⟩, by rw [e]; rfl⟩
        · obtain ⟨rfl, rfl⟩ := plain rfl
          obtain ⟨a, b, e⟩ := lc.2.2.1 rfl
          refine ⟨4, r.take 2, [], .turn a b, by rw [e]; exact .turn a b, .inl ⟨by decide, rfl, by rw [← er]⟩, by rw [e]; rfl⟩
        · obtain ⟨rfl, rfl⟩ := plain rfl
          obtain ⟨a, b, c, e⟩ := lc.2.2.2.1 rfl
          refine ⟨5, r.take 3, [], .moves a b c, by rw [e]; exact .moves a b c, .inl ⟨by decide, rfl, by rw [← er]⟩, by rw [e]; rfl⟩
        · obtain ⟨rfl, rfl⟩ := plain rfl
          obtain ⟨a, b, e⟩ := lc.2.2.1 rfl
          refine ⟨6, r.take 2, [], .same a b, by rw [e]; exact .same a b, .inl ⟨by decide, rfl, by rw [← er]⟩, by rw [e]; rfl⟩
        · obtain ⟨rfl, rfl⟩ := plain rfl
          obtain ⟨a, e⟩ := lc.2.1 rfl
          refine ⟨7, r.take 1, [], .least a, by rw [e]; exact .least a, .inl ⟨by decide, rfl, by rw [← er]⟩, by rw [e]; rfl⟩
        · obtain ⟨rfl, rfl⟩ := plain rfl
          obtain ⟨a, e⟩ := lc.2.1 rfl
          refine ⟨8, r.take 1, [], .best a, by rw [e]; exact .best a, .inl ⟨by decide, rfl, by rw [← er]⟩, by rw [e]; rfl⟩
theorem calls_of : ∀ (f : Nat) (l : List Int) (raw : List (List (List Int))), PyFlat.calls PyRc89.shape f l = some raw → PyInside.calls PyRc89.bound raw = true →
    ∃ cs, Reads l cs ∧ cs.length = raw.length ∧ ∀ s, PyFlat.played Rc89Neutral.step s (raw.map PyRc89.whole) = played s cs
  | f, [], raw, h, _ => by
    have : raw = [] := by cases f <;> (simp [PyFlat.calls] at h; exact h)
    subst this
    exact ⟨[], .nil, rfl, fun _ => rfl⟩
  | 0, _ :: _, _, h, _ => by simp [PyFlat.calls] at h
  | f + 1, p :: r, raw, h, hb => by
    rw [PyFlat.calls] at h
    cases hc : PyFlat.call PyRc89.shape (p :: r) with
    | none => rw [hc] at h; simp at h
    | some ct =>
      obtain ⟨c, t⟩ := ct
      rw [hc] at h
      dsimp only at h
      cases ht : PyFlat.calls PyRc89.shape f t with
      | none => rw [ht] at h; simp at h
      | some cs0 =>
        rw [ht] at h
        have h := Option.some.inj h
        subst h
        unfold PyInside.calls at hb
        rw [List.all_cons, Bool.and_eq_true] at hb
        obtain ⟨cs, h1, h2, h3⟩ := calls_of f t cs0 ht hb.2
        obtain ⟨q, xs, ss, x, ha, hl, hx⟩ := call_of hc hb.1
        refine ⟨x :: cs, ?_, by simp [h2], fun s => ?_⟩
        · rcases hl with ⟨hq, rfl, e⟩ | ⟨rfl, i, rfl, e⟩
          · rw [e]; exact .plain hq ha h1
          · rw [e]; exact .made ha h1
        · show (Rc89Neutral.step s (PyRc89.whole c)).2 :: PyFlat.played Rc89Neutral.step (Rc89Neutral.step s (PyRc89.whole c)).1 (cs0.map PyRc89.whole) = ans (does s x).2 :: played (does s x).1 cs
          have e : Rc89Neutral.step s (PyRc89.whole c) = ((does s x).1, ans (does s x).2) := by
            unfold Rc89Neutral.step
            rw [hx]
            rfl
          rw [e, h3]
theorem reads_of {l : List Int} (h : PyRc89.answers_asked l = true) : ∃ cs, Reads l cs ∧ PyRc89.answers l = PyFlat.told (played {} cs) ∧ (PyRc89.answers l).length ≤ 10000000 := by
  unfold PyRc89.answers_asked at h
  cases hc : PyFlat.calls PyRc89.shape l.length l with
  | none => rw [hc] at h; simp at h
  | some raw =>
    rw [hc] at h
    dsimp only at h
    rw [Bool.and_eq_true, Bool.and_eq_true, Bool.and_eq_true] at h
    obtain ⟨cs, h1, _, h3⟩ := calls_of l.length l raw hc h.1.1.2
    refine ⟨cs, h1, ?_, ?_⟩
    · unfold PyRc89.answers PyRc89.calls
      rw [hc]
      show PyFlat.told (PyFlat.played Rc89Neutral.step Rc89Neutral.start (raw.map PyRc89.whole)) = _
      rw [h3]
      rfl
    · have := h.2
      unfold PyFlat.short at this
      exact of_decide_eq_true this
theorem told_cons (a : List Int) (l : List (List Int)) : PyFlat.told (a :: l) = (a.length : Int) :: (a ++ PyFlat.told l) := by
  unfold PyFlat.told
  rw [List.flatMap_cons]
  rfl
end Gt
/-! ## GtRule -/
namespace Gt
open PySem PySem.Spec PyProof.Rows L2
/-! rules that the layer lacks -/
open PySem.AutoSeq1 in
/-- the call's own code: a list that takes on a tuple's items -/
theorem extend_tuple_meets (l : Addr) (us : Array Value) (n : Nat) (b : Addr) (ws : Array Value) (m : Nat) (dd : Option Addr) (sl : Array (Option Value)) (short : Builtin.List.listTooLong (us.size + ws.size) = false) (fits : us.size + ws.size ≤ sizeLine) :
    Meets (Builtin.«list.extend» ⟨[.ref l, .ref b], []⟩) (fun _ R s => s.heap.get? l = some { cls := .type "list", dict := none, data := .seq us n, slots := #[] } ∧ s.heap.get? b = some { cls := .type "tuple", dict := dd, data := .seq ws m, slots := sl } ∧ R (.ok (.ret Value.none)) { s with heap := s.heap.update l (Obj.mapSeq fun x => x ++ ws), toks := s.toks }) := by
  refine .of_wp fun _ _ _ _ st given => ?_
  obtain ⟨heap0, gens0, drawn0, toks0, os0⟩ := st
  obtain ⟨atL, atB, rest⟩ := given
  have no : ¬(!us.isEmpty && Builtin.List.listTooLong (us.size + ws.size)) = true := by rw [short]; simp
  have small : us.size ≤ sizeLine := Nat.le_trans (Nat.le_add_right _ _) fits
  have grown : (us ++ ws).size ≤ sizeLine + 1 := by simp only [Array.size_append]; omega
  wp_walk using (wpAny_updateSeq atL rfl (hz := small) (_hz' := grown)), wpAny_loadPart' atL, wpAny_loadPart' atB
  exact ⟨_, rfl, rest⟩
section
variable {X : Cx}
/-- xs.extend(t), t a tuple -/
def rExtendT (K : PySem.W.Frag) : V → List V → Hp → VK → Prop := fun x vs H Q => ∃ l b xs zs, x = .ref l ∧ vs = [.ref b] ∧ H l = some (.lst xs) ∧ SqT K H b zs ∧ xs.length + zs.length ≤ sizeLine ∧ Q .non (upd H l (.lst (xs ++ zs)))
theorem mt_extendT : MtM X "list.extend" (rExtendT X.K) := by
  intro pins st σ H recv args rv avs Q I relR relA asks
  obtain ⟨l, b, xs, zs, eR, eA, atL, atB, room, goal⟩ := asks
  subst eR eA
  cases relR
  obtain ⟨av, eav, relB⟩ := relA.one
  subst eav
  cases relB
  obtain ⟨_, us, n, valsL, lenL, objL⟩ := I.lstM atL
  obtain ⟨ws, valsB, ⟨⟨cls, dd, data, sl⟩, objB, isT, m, isSeq⟩, _⟩ := I.tuple atB
  simp only at isT isSeq
  subst isT isSeq
  have lenB := valsB.length
  have fits : us.toArray.size + ws.toArray.size ≤ sizeLine := by simp only [List.size_toArray]; omega
  have code := extend_tuple_meets l us.toArray n b ws.toArray m dd sl (notLongL fits) fits
  exact call_meets PySem.F.slot_list_extend ⟨_, objL, rfl⟩ PySem.F.entry_list_extend (PySem.F.args_list_extend_2 _ _) code
    ⟨objL, objB, V.non, _, I.lset (its' := us ++ ws) atL objL (by simp) (valsL.append valsB) (by simp only [List.length_append]; omega), rfl, goal⟩
end
/-! len(set(xs)), xs a list of ints: how many differ -/
theorem met_nodup (val : Nat → Int) : ∀ i, (firstMet val i).Nodup
  | 0 => List.nodup_nil
  | i + 1 => by
    rw [firstMet_succ]
    unfold step_dedup
    split
    · exact met_nodup val i
    · rename_i h
      refine nd_snoc (met_nodup val i) fun m => h (List.any_eq_true.mpr ⟨_, m, beq_self_eq_true _⟩)
theorem met_mem (ns : List Int) (k : Int) : k ∈ firstMet (fun i => ns.getD i 0) ns.length ↔ k ∈ ns := by
  have h := firstMet_any (fun i => ns.getD i 0) ns.length k
  have e : ((List.range ns.length).map fun i => ns.getD i 0) = ns := by
    refine List.ext_getElem? fun i => ?_
    rw [List.getElem?_map]
    by_cases c : i < ns.length
    · rw [List.getElem?_range c, List.getElem?_eq_getElem c]
      show some (ns.getD i 0) = some ns[i]
      rw [List.getD_eq_getElem?_getD, List.getElem?_eq_getElem c]
      rfl
    · rw [List.getElem?_eq_none (by rw [List.length_range]; omega), List.getElem?_eq_none (by omega)]
      rfl
  rw [e] at h
  have m : ∀ l : List Int, (l.any (· == k) = true) ↔ k ∈ l := fun l => by
    rw [List.any_eq_true]
    exact ⟨fun ⟨x, hx, q⟩ => by rw [← eq_of_beq q]; exact hx, fun hk => ⟨k, hk, beq_self_eq_true k⟩⟩
  rw [← m, ← m, h]
def tLenSetD (K : PySem.W.Frag) (ta : TE) : TE := fun σ H Q => ta σ H fun x H1 => ∃ (l : Addr) (ns : List Int), x = .ref l ∧ SqL K H1 l (ns.map V.int) ∧ ns.length ≤ 4000 ∧ ∀ out : List Int, out.Nodup → (∀ k, k ∈ out ↔ k ∈ ns) → Q (.int (out.length : Nat)) H1
theorem pe_lenSetD {X : Cx} {a : Expr} {ta : TE} {p p2 q pos : Pos} (hg : Gl X "len") (hm : X.mg "len" = none) (hg2 : Gl X "set") (hm2 : X.mg "set" = none) (ha : PE X a ta) (hc : X.calm = true) (na : starEach [a] X.env = (false, eval a X.env) :: starEach [] X.env := by rfl) :
    PE X (.Call (.Name "len" p) [.Call (.Name "set" p2) [a] [] q] [] pos) (tLenSetD X.K ta) := by
  refine ⟨fun pins st σ H Q I asks => Call_ (ld_blt I hg hm PySem.boot_len (callWith_builtin1 (args_cons (Call_ (ld_blt I hg2 hm2 boot_set ?_)) rfl) rfl rfl))⟩
  refine callWith_type1 (args_cons (thn (ha.run pins st σ H _ I asks) fun _ st1 ⟨_, H1, I1, rel, l, ns, ex, isL, short, then_⟩ => args_nil ?_) na) na rfl
  subst ex
  cases rel
  obtain ⟨us, vals, plain, _⟩ := I1.list isL
  have size : us.toArray.size = ns.length := by
    have := vals.length
    simp only [List.length_map] at this
    simp only [List.size_toArray]
    omega
  refine call_set_list (I1.ok.hd hc) plain.isList (ns := ns) (by simpa using vals.ints) (by unfold scanBound; omega) fun heap1 tk isSet stays => args_nil ?_
  simp only [size] at isSet
  obtain ⟨_, _, _, _, at_, exact_, data_, _, _, _, table_, many⟩ := isSet
  have few := firstMet_length_le (fun i => ns.getD i 0) ns.length
  have I2 := I1.kept (h' := heap1) (t' := tk) fun b o e => stays b o (Heap.lt_size e) e
  exact call_len_set at_ exact_ data_ table_ (by simp only [many]; omega) ⟨.int ((firstMet (fun i => ns.getD i 0) ns.length).length : Nat), H1, I2.tok _, ⟨_, by rw [many]⟩, then_ _ (met_nodup _ _) (met_mem ns)⟩
end Gt
/-! ## GtBase -/
namespace Gt
open PySem PySem.Spec PyProof.Rows L2
/-! ### the text by places -/
def top (i : Nat) : Stmt := PySem.Challenge.pw_giveortake_s01_answers.main.body.getD i (.Pass ⟨0, 0, 0, 0⟩)
abbrev sCommon : Stmt := top 1
abbrev sArcs : Stmt := top 2
abbrev sMost : Stmt := top 3
abbrev sLess : Stmt := top 4
abbrev sLeast : Stmt := top 5
abbrev sBest : Stmt := top 6
abbrev sMInit : Stmt := inClass (top 9) 0
abbrev sMany : Stmt := inClass (top 9) 1
abbrev sReached : Stmt := inClass (top 9) 2
abbrev sMayBe : Stmt := top 10
abbrev sSame : Stmt := top 11
abbrev sClasses : Stmt := top 12
abbrev sFewest : Stmt := top 13
abbrev sPInit : Stmt := inClass (top 15) 0
abbrev sOf : Stmt := inClass (top 15) 1
abbrev sXInit : Stmt := inClass (top 16) 0
abbrev sTurn : Stmt := inClass (top 16) 1
abbrev sTimes : Stmt := inClass (top 16) 2
abbrev sPaid : Stmt := inClass (top 16) 3
abbrev sTInit : Stmt := inClass (top 26) 0
abbrev sSetPay : Stmt := inClass (top 26) 1
abbrev sMachine : Stmt := inClass (top 26) 2
abbrev sRefusal : Stmt := inClass (top 26) 3
abbrev sOfTwo : Stmt := inClass (top 26) 4
abbrev sAnswer : Stmt := inClass (top 26) 5
abbrev sAnswers : Stmt := top 27
/-! ### callees -/
section
variable (P : Program) (w : World) (K : PySem.W.Frag) (mg : Str → Option Value) (base : Heap)
/-- the def of a name keeps its promise -/
structure Df (x : Str) (k : Nat) (ps : List Str) (sp : Sp) (f : Addr) (fd : FuncData) : Prop where
  ok : FnOk P w K mg base CX0 k f fd ps sp
  b : Binds K fd ps []
  mg : mg x = some (.ref f)
  kp : PySem.W.keepIn K (.ref f) = true
structure Md (C : Addr) (x : Str) (k : Nat) (ps : List Str) (sp : Sp) (f : Addr) (fd : FuncData) : Prop where
  ok : FnOk P w K mg base CX0 k f fd ps sp
  b : Binds K fd ps []
  m : Meth K C x f
structure Nw (C : Addr) (x : Str) (k : Nat) (ps : List Str) (sp : Sp) (f : Addr) (fd : FuncData) : Prop where
  ok : FnOk P w K mg base CX0 k f fd ps sp
  b : Binds K fd ps []
  mc : Mk K C f
  mg : mg x = some (.ref C)
end
/-! ### a while by a word of the measure -/
theorem while_m {c : TT} {tb : TS} {D : Ends} {σ : L2.St} {H : Hp} (W : Nat → L2.St → Hp → Prop) (m0 : Nat) (h0 : W m0 σ H)
    (hs : ∀ m σ H, W m σ H → c σ H fun b H1 => if b = true then ∃ N : L2.St → Hp → Prop, (∀ σ' H', N σ' H' → ∃ m', m' < m ∧ W m' σ' H') ∧ tb { D with nx := N, ct := N, bk := D.nx } σ H1 else D.nx σ H1) : tWhile c tb D σ H :=
  ⟨W, ⟨m0, h0⟩, hs⟩
/-! ### attributes -/
theorem lk_here {k : Str} {v : V} {r : List (Str × V)} : List.lookup k ((k, v) :: r) = some v := by
  have e : (k == k) = true := beq_self_eq_true k
  simp only [List.lookup, e]
theorem lk_past {k g : Str} {v : V} {r : List (Str × V)} (h : (k == g) = false) : List.lookup k ((g, v) :: r) = List.lookup k r := by
  simp only [List.lookup, h]
theorem put_here {f : Str} {v x : V} {r : List (Str × V)} : putF f v ((f, x) :: r) = (f, v) :: r := if_pos rfl
theorem put_past {f g : Str} {v x : V} {r : List (Str × V)} (h : ¬ g = f) : putF f v ((g, x) :: r) = (g, x) :: putF f v r := if_neg h
def f1 (n : Str) (v : V) : List (Str × V) := [(n, v)]
def f2 (n m : Str) (v u : V) : List (Str × V) := [(n, v), (m, u)]
theorem f1_at {n : Str} {v : V} : (f1 n v).lookup n = some v := lk_here
theorem f1_no {n k : Str} {v : V} (h : (k == n) = false) : (f1 n v).lookup k = none := (lk_past h).trans rfl
theorem f2_fst {n m : Str} {v u : V} : (f2 n m v u).lookup n = some v := lk_here
theorem f2_snd {n m : Str} {v u : V} (h : (m == n) = false) : (f2 n m v u).lookup m = some u := (lk_past h).trans lk_here
theorem f2_no {n m k : Str} {v u : V} (h : (k == n) = false) (h' : (k == m) = false) : (f2 n m v u).lookup k = none := (lk_past h).trans ((lk_past h').trans rfl)
theorem f1_new {n : Str} {v : V} : putF n v [] = f1 n v := rfl
theorem f2_new {n m : Str} {v u : V} (h : ¬ n = m) : putF m u (f1 n v) = f2 n m v u := put_past h
theorem f2_put1 {n m : Str} {v u x : V} : putF n x (f2 n m v u) = f2 n m x u := put_here
theorem f2_put2 {n m : Str} {v u x : V} (h : ¬ n = m) : putF m x (f2 n m v u) = f2 n m v x := (put_past h).trans (congrArg _ put_here)
/-! ### how the data lie in the heap -/
open Rc89 (act next)
def lI (l : List Int) : List V := l.map V.int
def lN (l : List Nat) : List V := l.map fun (n : Nat) => V.int (n : Int)
def MachAt (C : Addr) (H : Hp) (a : Addr) (A : Rc89.Machine) : Prop := ∃ (dx ld ln : Addr) (ts : List Addr), H a = some (.ins C dx (f2 "deeds" "nexts" (.ref ld) (.ref ln))) ∧ H ld = some (.lst (lN (A.map fun x => x.1))) ∧ H ln = some (.lst (ts.map V.ref)) ∧ ts.length = A.length ∧
  ∀ (i : Nat) (t : Addr), ts[i]? = some t → H t = some (.tup [.int (next A i 0 : Nat), .int (next A i 1 : Nat)])
def PayAt (C : Addr) (H : Hp) (a : Addr) (g : Rc89.Pay) : Prop := ∃ (dx t t0 t1 : Addr), H a = some (.ins C dx (f1 "amounts" (.ref t))) ∧ H t = some (.tup [.ref t0, .ref t1]) ∧ H t0 = some (.tup [.int g.both, .int g.given]) ∧ H t1 = some (.tup [.int g.taken, .int g.none_])
theorem MachAt.same {C a : Addr} {H H' : Hp} {A : Rc89.Machine} (s : Same H H') (h : MachAt C H a A) : MachAt C H' a A := by
  obtain ⟨dx, ld, ln, ts, h1, h2, h3, h4, h5⟩ := h
  exact ⟨dx, ld, ln, ts, s _ _ h1, s _ _ h2, s _ _ h3, h4, fun i t e => s _ _ (h5 i t e)⟩
theorem PayAt.same {C a : Addr} {H H' : Hp} {g : Rc89.Pay} (s : Same H H') (h : PayAt C H a g) : PayAt C H' a g := by
  obtain ⟨dx, t, t0, t1, h1, h2, h3, h4⟩ := h
  exact ⟨dx, t, t0, t1, s _ _ h1, s _ _ h2, s _ _ h3, s _ _ h4⟩
theorem same_upd {H : Hp} {p : Addr} {o : HO} (h : H p = none) : Same H (upd H p o) := fun b u e => by
  rw [upd_ne (ne_of_none e h)]
  exact e
theorem same_into {H0 H : Hp} {p : Addr} {o : HO} (s : Same H0 H) (h : H0 p = none) : Same H0 (L2.upd H p o) := fun b u e => by
  rw [upd_ne (ne_of_none e h)]
  exact s b u e
/-! ### what is new: the object p itself, and what was not there -/
def nw (H H' : Hp) (p : Addr) : Hp := fun b => if b = p ∨ H b = none then H' b else none
theorem nw_at {H H' : Hp} {p b : Addr} (h : b = p ∨ H b = none) : nw H H' p b = H' b := if_pos h
theorem nw_in {H H' : Hp} {p b : Addr} {o : HO} (h : nw H H' p b = some o) : (b = p ∨ H b = none) ∧ H' b = some o := by
  by_cases c : b = p ∨ H b = none
  · exact ⟨c, by rw [nw_at c] at h; exact h⟩
  · unfold nw at h
    rw [if_neg c] at h
    cases h
theorem nw_same {H H' : Hp} {p : Addr} : Same (nw H H' p) H' := fun b o e => (nw_in e).2
theorem lN_more {l : List Nat} {i n : Nat} (h : l[i]? = some n) : lN (l.take (i + 1)) = lN (l.take i) ++ [V.int (n : Int)] := by
  unfold lN
  rw [take_more h, List.map_append]
  rfl
theorem lI_more {l : List Int} {i : Nat} {n : Int} (h : l[i]? = some n) : lI (l.take (i + 1)) = lI (l.take i) ++ [V.int n] := by
  unfold lI
  rw [take_more h, List.map_append]
  rfl
theorem lI_app (l m : List Int) : lI (l ++ m) = lI l ++ lI m := by unfold lI; rw [List.map_append]
theorem lN_app (l m : List Nat) : lN (l ++ m) = lN l ++ lN m := by unfold lN; rw [List.map_append]
theorem lN_take_lt {l : List Nat} {i : Nat} (h : i ≤ 1000000) : (lN (l.take i)).length < sizeLine := by
  unfold lN
  rw [List.length_map, List.length_take]
  exact Nat.lt_of_le_of_lt (Nat.min_le_left _ _) (by rw [sizeLine_eq]; omega)
theorem lI_len (l : List Int) : ((lI l).length : Int) = (l.length : Int) := by unfold lI; rw [List.length_map]
theorem lN_len (l : List Nat) : ((lN l).length : Int) = (l.length : Int) := by unfold lN; rw [List.length_map]
theorem lN_at {l : List Nat} {i n : Nat} (h : l[i]? = some n) : (lN l)[i]? = some (.int (n : Int)) := by
  unfold lN
  rw [List.getElem?_map, h]
  rfl
theorem lN_get {l : List Nat} {i : Nat} {y : V} (h : (lN l)[i]? = some y) : ∃ n, l[i]? = some n ∧ y = .int (n : Int) := by
  unfold lN at h
  rw [List.getElem?_map] at h
  cases e : l[i]? with
  | none => rw [e] at h; cases h
  | some z => rw [e] at h; exact ⟨z, rfl, (Option.some.inj h).symm⟩
theorem lI_at {l : List Int} {i : Nat} {n : Int} (h : l[i]? = some n) : (lI l)[i]? = some (.int n) := by
  unfold lI
  rw [List.getElem?_map, h]
  rfl
theorem lI_get {l : List Int} {i : Nat} {y : V} (h : (lI l)[i]? = some y) : ∃ n, l[i]? = some n ∧ y = .int n := by
  unfold lI at h
  rw [List.getElem?_map] at h
  cases e : l[i]? with
  | none => rw [e] at h; cases h
  | some z => rw [e] at h; exact ⟨z, rfl, (Option.some.inj h).symm⟩
theorem refs_at' {l : List Addr} {i : Nat} {n : Addr} (h : l[i]? = some n) : (l.map V.ref)[i]? = some (.ref n) := by
  rw [List.getElem?_map, h]
  rfl
theorem refs_get {l : List Addr} {i : Nat} {y : V} (h : (l.map V.ref)[i]? = some y) : ∃ n, l[i]? = some n ∧ y = .ref n := by
  rw [List.getElem?_map] at h
  cases e : l[i]? with
  | none => rw [e] at h; cases h
  | some z => rw [e] at h; exact ⟨z, rfl, (Option.some.inj h).symm⟩
theorem deed_at {A : Rc89.Machine} {s : Nat} (h : s < A.length) : (lN (A.map fun x => x.1))[s]? = some (.int (act A s : Nat)) := by
  refine lN_at ?_
  rw [List.getElem?_map, List.getElem?_eq_getElem h]
  show some A[s].1 = some (act A s)
  unfold act
  rw [List.getD_eq_getElem?_getD, List.getElem?_eq_getElem h]
  rfl
theorem size_small {n : Nat} (h : n ≤ 1000000) : n ≤ sizeLine := by rw [sizeLine_eq]; omega
theorem size_lt {n : Nat} (h : n ≤ 1000000) : n < sizeLine := by rw [sizeLine_eq]; omega
/-! ### what the top has written -/
structure Txt (K : PySem.W.Frag) (mg : Str → Option Value) (CM CP CX CT : Addr) : Prop where
  clM : L2.Cls K CM
  nD : NoAttr K CM "deeds"
  nN : NoAttr K CM "nexts"
  clP : L2.Cls K CP
  nA : NoAttr K CP "amounts"
  clX : L2.Cls K CX
  nMv : NoAttr K CX "moves"
  nS : NoAttr K CX "since"
  clT : L2.Cls K CT
  nP : NoAttr K CT "pay"
  nMs : NoAttr K CT "machines"
  len : mg "len" = none
  range : mg "range" = none
  abs : mg "abs" = none
  int : mg "int" = none
  set : mg "set" = none
  enum : mg "enumerate" = none
  cMS : ∃ t, mg "MOST_STATES" = some (.int 16 t)
  cRef : ∃ t, mg "REFUSED" = some (.int (-1) t)
  cNot : ∃ t, mg "NOT_THERE" = some (.int (-4) t)
  cMach : ∃ t, mg "MACHINES" = some (.int 8 t)
  cPay : ∃ t, mg "MOST_PAY" = some (.int 1000 t)
  cRounds : ∃ t, mg "MOST_ROUNDS" = some (.int 1000000000000000 t)
  cMoves : ∃ t, mg "MOST_MOVES" = some (.int 256 t)
  cWord : ∃ t, mg "WORD" = some (.int 18446744073709551616 t)
  cNum : ∃ a, mg "NUMBERS" = some (.ref a) ∧ ∀ H : Hp, SqT K H a (lI [0, 4, 1, 3, 2, 3, 2, 1, 1])
/-! ### a list against the empty one -/
theorem shaped_nil : SeqAt.shaped (.list []) = true := by decide
theorem eqv_nil (ds : List PyData) : PyData.eqv (.list ds) (.list []) = ds.isEmpty := by
  cases ds <;> simp [PyData.eqv, PyData.eqvAll]
/-- data of lI -/
theorem dp_nats (K : PySem.W.Frag) (H : Hp) : ∀ l : List Nat, DpAll K H (lN l) (l.map fun (n : Nat) => PyData.int (n : Int))
  | [] => .nil
  | n :: l => .cons (.int _) (dp_nats K H l)
theorem dp_ints (K : PySem.W.Frag) (H : Hp) : ∀ l : List Int, DpAll K H (lI l) (l.map fun n => PyData.int n)
  | [] => .nil
  | n :: l => .cons (.int _) (dp_ints K H l)
theorem shaped_ints (l : List Int) : SeqAt.shaped (.list (l.map fun n => PyData.int n)) = true := by
  have h1 : ∀ l : List Int, PyData.canLayAll0 (l.map fun n => PyData.int n) = true := by
    intro l
    induction l with
    | nil => rfl
    | cons a l ih => simp [PyData.canLayAll0, PyData.canLay0, ih]
  have h2 : ∀ l : List Int, PyData.depthAll (l.map fun n => PyData.int n) ≤ 1 := by
    intro l
    induction l with
    | nil => simp [PyData.depthAll]
    | cons a l ih => simp [PyData.depthAll, PyData.depth]; omega
  have h3 := h2 l
  unfold SeqAt.shaped
  simp [PyData.canLay0, PyData.depth, h1 l]
  omega
theorem shaped_nats (l : List Nat) : SeqAt.shaped (.list (l.map fun (n : Nat) => PyData.int (n : Int))) = true := by
  have h := shaped_ints (l.map fun (n : Nat) => (n : Int))
  rw [List.map_map] at h
  exact h
/-- xs != [] -/
theorem ne_nil_nats {K : PySem.W.Frag} {H : Hp} {l p : Addr} {ws : List Nat} {Q : VK} (h : H l = some (.lst (lN ws))) (hp : H p = none) (q : Q (.bl (!ws.isEmpty)) (upd H p (.lst []))) : rNeD K (.ref l) (.ref p) (upd H p (.lst [])) Q := by
  refine ⟨_, _, .lst (SqL.of (by rw [upd_ne (ne_of_none h hp)]; exact h)) (dp_nats K _ ws), .lst (SqL.of upd_same) .nil, shaped_nats ws, shaped_nil, ?_⟩
  rw [eqv_nil, List.isEmpty_map]
  exact q
theorem ne_nil_ints {K : PySem.W.Frag} {H : Hp} {l p : Addr} {ws : List Int} {Q : VK} (h : H l = some (.lst (lI ws))) (hp : H p = none) (q : Q (.bl (!ws.isEmpty)) (upd H p (.lst []))) : rNeD K (.ref l) (.ref p) (upd H p (.lst [])) Q := by
  refine ⟨_, _, .lst (SqL.of (by rw [upd_ne (ne_of_none h hp)]; exact h)) (dp_ints K _ ws), .lst (SqL.of upd_same) .nil, shaped_ints ws, shaped_nil, ?_⟩
  rw [eqv_nil, List.isEmpty_map]
  exact q
theorem flat_nats (l : List Nat) : (lN l).all flatV = true := by
  unfold lN
  rw [List.all_map]
  exact List.all_eq_true.mpr fun _ _ => rfl
theorem in_nats (s : Nat) (l : List Nat) : inV (.int (s : Int)) (lN l) = decide (s ∈ l) := by
  unfold inV lN
  rw [List.any_map, Bool.eq_iff_iff, List.any_eq_true, decide_eq_true_eq]
  constructor
  · rintro ⟨x, hx, e⟩
    have e : ((x : Int) == (s : Int)) = true := e
    have e := eq_of_beq e
    have : x = s := by omega
    rw [← this]; exact hx
  · intro h
    exact ⟨s, h, (beq_self_eq_true (s : Int) : ((s : Int) == (s : Int)) = true)⟩
theorem itd {c : Prop} [Decidable c] {A B : Prop} (h1 : c → A) (h2 : ¬ c → B) : if decide c = true then A else B := by
  by_cases h : c
  · rw [decide_eq_true h]; exact iteT (h1 h)
  · rw [decide_eq_false h]; exact iteF (h2 h)
theorem itnd {c : Prop} [Decidable c] {A B : Prop} (h1 : ¬ c → A) (h2 : c → B) : if (!decide c) = true then A else B := by
  by_cases h : c
  · rw [decide_eq_true h]; exact iteF (h2 h)
  · rw [decide_eq_false h]; exact iteT (h1 h)
theorem last_of {α : Type} {l : List α} (h : l.isEmpty = false) : ∃ r x, l = r ++ [x] := by
  have hne : l ≠ [] := by intro q; rw [q] at h; cases h
  exact ⟨l.dropLast, l.getLast hne, (List.dropLast_concat_getLast hne).symm⟩
theorem pop_at {xs : List V} {y : V} : (xs ++ [y])[(xs ++ [y]).length - 1]? = some y := by
  rw [List.length_append, show xs.length + [y].length - 1 = xs.length from rfl, List.getElem?_append_right (Nat.le_refl _), Nat.sub_self]
  rfl
theorem pop_rest {xs : List V} {y : V} : (xs ++ [y]).dropLast = xs := List.dropLast_concat
end Gt
/-! ## GtD1 -/
namespace Gt
open PySem PySem.Spec PyProof.Rows L2
open Rc89 (act next)
section
variable {P : Program} {w : World} {K : PySem.W.Frag} {mg : Str → Option Value} {base : Heap}
/-! ### common -/
def spCommon : Sp := fun vs H Q _ => ∃ (x y : Nat), vs = [.int (x : Int), .int (y : Int)] ∧ Q (.int (Nat.gcd x y : Nat)) H
theorem scCommon : FnScope ["one", "other"] ["one", "other"] (defScope sCommon) := ⟨rfl, rfl, rfl, by decide +kernel, rfl, by decide +kernel, by decide +kernel⟩
theorem ok_common {f : Addr} {fd : FuncData} (F : Fun K "common" "common" sCommon f fd) : FnOk P w K mg base CX0 1 f fd ["one", "other"] spCommon := by
  refine F.ok scCommon (fun vs H Q E h => ?_) (fun cdv A outer s H vs Q E hr h => ?_)
  · obtain ⟨x, y, rfl, _⟩ := h
    rfl
  · obtain ⟨x, y, rfl, k⟩ := h
    refine ⟨_, pss_cons (ps_while PassesOwn.never (pt_cmpR op_gt (pv 1) pe_int (nomark _))
        (pss_one (ps_par (i := 0) (j := 1) (by rfl) scCommon.nd rfl rfl (by decide) rfl rfl (pa_cons (pv 1) (pa_cons (pe_op op_mod (pv 0) (pv 1)) pa_nil)) (by rfl))))
      (pss_one (ps_ret (pv 0))), ?_⟩
    refine while_m (fun m σ H' => ∃ x' y' : Nat, m = y' ∧ H' = H ∧ σ = [some (.int (x' : Int)), some (.int (y' : Int))] ∧ Nat.gcd x' y' = Nat.gcd x y) y ⟨x, y, rfl, rfl, rfl, rfl⟩ ?_
    rintro m σ H' ⟨x', y', rfl, rfl, rfl, e⟩
    refine ⟨_, rfl, _, _, rfl, rfl, _, rfl, ?_⟩
    refine ite2 (fun c => ?_) (fun c => ?_)
    · have c := of_decide_eq_true c
      refine ⟨_, fun σ' H' h => h, ?_⟩
      refine ⟨_, rfl, _, rfl, _, rfl, _, _, rfl, rfl, c, _, _, rfl, ?_⟩
      refine ⟨x' % m, Nat.mod_lt _ (by omega), m, x' % m, rfl, rfl, ?_, ?_⟩
      · show [some (V.int (m : Int)), some (V.int ((x' : Int) % (m : Int)))] = _
        rw [show ((x' : Int) % (m : Int)) = ((x' % m : Nat) : Int) from rfl]
      · rw [← e, Nat.gcd_comm m (x' % m), ← Nat.gcd_rec, Nat.gcd_comm]
    · have c : ¬ (0 : Int) < (m : Int) := fun q => c (decide_eq_true q)
      have z : m = 0 := by omega
      subst z
      refine ⟨_, rfl, ?_⟩
      rw [Nat.gcd_zero_right] at e
      rw [e]
      exact k
/-! ### is_less -/
def spLess (K : PySem.W.Frag) : Sp := fun vs H Q _ => ∃ (a b : Addr) (x y z u : Int), vs = [.ref a, .ref b] ∧ SqT K H a [.int x, .int y] ∧ SqT K H b [.int z, .int u] ∧ 0 ≤ y ∧ y ≤ 1000 ∧ 0 ≤ u ∧ u ≤ 1000 ∧ Q (.bl (decide (x * u < z * y))) H
theorem scLess : FnScope ["one", "other"] ["one", "other"] (defScope sLess) := ⟨rfl, rfl, rfl, by decide +kernel, rfl, by decide +kernel, by decide +kernel⟩
theorem ok_less {f : Addr} {fd : FuncData} (F : Fun K "is_less" "is_less" sLess f fd) : FnOk P w K mg base CX0 1 f fd ["one", "other"] (spLess K) := by
  refine F.ok scLess (fun vs H Q E h => ?_) (fun cdv A outer s H vs Q E hr h => ?_)
  · obtain ⟨a, b, x, y, z, u, rfl, _⟩ := h
    rfl
  · obtain ⟨a, b, x, y, z, u, rfl, ha, hb, y0, y1, u0, u1, k⟩ := h
    refine ⟨_, pss_one (ps_ret (pe_cmpR op_lt (pe_op op_mul (pe_ix ix_tup (pv 0) pe_int (fun _ _ => rfl)) (pe_ix ix_tup (pv 1) pe_int (fun _ _ => rfl)))
      (pe_op op_mul (pe_ix ix_tup (pv 1) pe_int (fun _ _ => rfl)) (pe_ix ix_tup (pv 0) pe_int (fun _ _ => rfl))) (nomark _))), ?_⟩
    refine ⟨_, rfl, a, _, 0, _, rfl, rfl, ha, atI_nat (j := 0) rfl, _, rfl, b, _, 1, _, rfl, rfl, hb, atI_nat (j := 1) rfl, _, _, rfl, rfl, .inr ⟨by omega, by omega⟩,
      _, rfl, b, _, 0, _, rfl, rfl, hb, atI_nat (j := 0) rfl, _, rfl, a, _, 1, _, rfl, rfl, ha, atI_nat (j := 1) rfl, _, _, rfl, rfl, .inr ⟨by omega, by omega⟩, _, _, rfl, rfl, k⟩
end
end Gt
/-! ## GtD2 -/
namespace Gt
open PySem PySem.Spec PyProof.Rows L2
open Rc89 (act next)
section
variable {P : Program} {w : World} {K : PySem.W.Frag} {mg : Str → Option Value} {base : Heap} {CM CP CX CT : Addr}
/-! ### Machine.__init__ -/
theorem told_len (l : List Nat) : (Rc89.told l).length = l.length / 3 := by
  unfold Rc89.told
  rw [List.length_map, List.length_range]
theorem told_at (l : List Nat) {i : Nat} (h : i < l.length / 3) : (Rc89.told l)[i]? = some (l.getD (3 * i) 0, l.getD (3 * i + 1) 0, l.getD (3 * i + 2) 0) := by
  unfold Rc89.told
  rw [List.getElem?_map, List.getElem?_range h]
  rfl
theorem told_next0 (l : List Nat) {i : Nat} (h : i < l.length / 3) : next (Rc89.told l) i 0 = l.getD (3 * i + 1) 0 := by
  unfold next
  rw [if_pos rfl, List.getD_eq_getElem?_getD, told_at l h]
  rfl
theorem told_next1 (l : List Nat) {i : Nat} (h : i < l.length / 3) : next (Rc89.told l) i 1 = l.getD (3 * i + 2) 0 := by
  unfold next
  rw [if_neg (by decide), List.getD_eq_getElem?_getD, told_at l h]
  rfl
theorem told_deeds (l : List Nat) {i : Nat} (h : i < l.length / 3) : ((Rc89.told l).map fun x => x.1)[i]? = some (l.getD (3 * i) 0) := by
  rw [List.getElem?_map, told_at l h]
  rfl
theorem nn_at {ss : List Int} (nn : ∀ z ∈ ss, 0 ≤ z ∧ z ≤ 255) {i : Nat} (h : i < ss.length) : (lI ss)[i]? = some (.int ((ss.map Int.toNat).getD i 0 : Nat)) := by
  have e : ss[i]? = some ss[i] := List.getElem?_eq_getElem h
  refine (lI_at e).trans ?_
  have h2 := nn ss[i] (List.getElem_mem h)
  rw [List.getD_eq_getElem?_getD, List.getElem?_map, e]
  show some (V.int ss[i]) = some (V.int ((ss[i].toNat : Nat) : Int))
  rw [Int.toNat_of_nonneg h2.1]
def rMulI : R2 := rI CMul fun i j => .int (i * j)
def rAddI : R2 := rI0 fun i j => .int (i + j)
def spMInit (K : PySem.W.Frag) (C : Addr) : Sp := fun vs H Q _ => ∃ (p dx a : Addr) (ss : List Int), vs = [.ref p, .ref a] ∧ H p = some (.ins C dx []) ∧ SqL K H a (lI ss) ∧ (∀ z ∈ ss, 0 ≤ z ∧ z ≤ 255) ∧ ss.length ≤ 48 ∧
  ∀ H' : Hp, MachAt C (nw H H' p) p (Rc89.told (ss.map Int.toNat)) → (∀ b o, H b = some o → b ≠ p → H' b = some o) → Q .non H'
theorem scMInit : FnScope ["self", "states", "many", "k"] ["self", "states"] (defScope sMInit) := ⟨rfl, rfl, rfl, by decide +kernel, rfl, by decide +kernel, by decide +kernel⟩
theorem ok_minit {f : Addr} {fd : FuncData} (F : Fun K "__init__" "Machine.__init__" sMInit f fd) (T : Txt K mg CM CP CX CT) : FnOk P w K mg base CX0 1 f fd ["self", "states"] (spMInit K CM) := by
  refine F.ok scMInit (fun vs H Q E h => ?_) (fun cdv A outer s H vs Q E hr h => ?_)
  · obtain ⟨p, dx, a, ss, rfl, _⟩ := h
    rfl
  · obtain ⟨p, dx, a, ss, rfl, hp, ha, nn, hl, k⟩ := h
    refine ⟨_, pss_cons (ps_set (i := 2) scMInit.nd rfl (Or.inl rfl) (pe_op op_fdiv (pe_callB call_len_seq (by rfl) T.len PySem.boot_len (pa_cons (pv 1) pa_nil)) pe_int))
      (pss_cons (ps_fld (pv 0) (pe_lc (own := [("k", 3)]) (g := gName 3) (tt := tYes) (te := tOp (rIxL K) (tVar 1) (tOp rMulI (tC (.int 3)) (tVar 3))) (by rfl) scMInit.nd (pi_range1 (by rfl) T.range (pa_cons (pv 2) pa_nil))
          (blkOk_by (own := [("k", 3)]) (N := ["self", "states", "many", "k"]) (sc := defScope sMInit) (by decide +kernel)) (fun _ _ _ _ _ => pg_name (i := 3) scMInit.nd rfl (Or.inl rfl)) (fun _ _ _ _ _ => pts_nil)
          (fun _ _ _ _ _ => pe_ix ix_list (pv 1) (pe_op op_mul pe_int (pv 3)) (fun _ _ => rfl))) rfl)
      (pss_one (ps_fld (pv 0) (pe_lc (own := [("k", 3)]) (g := gName 3) (tt := tYes) (te := tTup (tCons (tOp (rIxL K) (tVar 1) (tOp rAddI (tOp rMulI (tC (.int 3)) (tVar 3)) (tC (.int 1)))) (tCons (tOp (rIxL K) (tVar 1) (tOp rAddI (tOp rMulI (tC (.int 3)) (tVar 3)) (tC (.int 2)))) tNil))) (by rfl) scMInit.nd (pi_range1 (by rfl) T.range (pa_cons (pv 2) pa_nil))
          (blkOk_by (own := [("k", 3)]) (N := ["self", "states", "many", "k"]) (sc := defScope sMInit) (by decide +kernel)) (fun _ _ _ _ _ => pg_name (i := 3) scMInit.nd rfl (Or.inl rfl)) (fun _ _ _ _ _ => pts_nil)
          (fun _ _ _ _ _ => pe_tup (pa_cons (pe_ix ix_list (pv 1) (pe_op op_add (pe_op op_mul pe_int (pv 3)) pe_int) (fun _ _ => rfl)) (pa_cons (pe_ix ix_list (pv 1) (pe_op op_add (pe_op op_mul pe_int (pv 3)) pe_int) (fun _ _ => rfl)) pa_nil)))) rfl))), ?_⟩
    -- many = len(states) // 3
    refine ⟨_, rfl, a, _, rfl, .inl ha, (ss.length : Int), _, congrArg V.int (lI_len ss), rfl, ⟨by decide, by decide⟩, ?_⟩
    generalize hn : ss.length / 3 = n
    -- self.deeds = [..]
    refine ⟨_, rfl, (n : Int), congrArg (fun z => [V.int z]) (by rw [← hn]; rfl), by omega, by omega, fun D hD => ?_⟩
    refine lc_range (lo := 0) (n := n) (fun i H' => Same H H' ∧ H' D = some (.lst (lN (((Rc89.told (ss.map Int.toNat)).map fun x => x.1).take i)))) ⟨same_upd hD, upd_same⟩ (fun i H' hi ⟨s1, h1⟩ => ?_) (fun H' h => ?_)
    · refine ⟨rfl, _, rfl, _, rfl, _, _, rfl, rfl, .inl ⟨by decide, by decide⟩, a, _, _, _, rfl, rfl, s1.seq ha, at_of (j := 3 * i) (by omega) (nn_at nn (by omega)), ?_⟩
      refine ⟨_, h1, lN_take_lt (by omega), same_into s1 hD, ?_⟩
      rw [upd_same, lN_more (told_deeds (ss.map Int.toNat) (i := i) (by rw [List.length_map]; omega))]
    · obtain ⟨s1, h1⟩ := h
      have tl : (Rc89.told (ss.map Int.toNat)).length = n := by rw [told_len, List.length_map, hn]
      rw [List.take_of_length_le (by rw [List.length_map, tl]; exact Nat.le_refl _)] at h1
      refine ⟨_, rfl, p, CM, dx, _, rfl, s1 _ _ hp, T.clM, T.nD, (by show 0 < 1000; decide), ?_⟩
      -- self.nexts = [..]
      have pD : D ≠ p := fun q => by rw [q, hp] at hD; cases hD
      generalize hH1 : upd H' p (.ins CM dx (putF "deeds" (.ref D) [])) = H1
      have keep1 : ∀ b o, H' b = some o → b ≠ p → H1 b = some o := fun b o e hb => by rw [← hH1, upd_ne hb]; exact e
      have hp1 : H1 p = some (.ins CM dx (f1 "deeds" (.ref D))) := by rw [← hH1]; exact upd_same
      have hD1 : H1 D = _ := keep1 D _ h1 pD
      have ha1 : SqL K H1 a (lI ss) := by
        rcases s1.seq ha with (h | ⟨o, h⟩) | h
        · exact .inl (.inl (keep1 _ _ h (ne_of h (s1 _ _ hp) (by intro z; cases z))))
        · exact .inl (.inr ⟨o, keep1 _ _ h (ne_of h (s1 _ _ hp) (by intro z; cases z))⟩)
        · exact .inr h
      have frH : ∀ b, H1 b = none → H b = none := fun b e => by
        cases q : H b with
        | none => rfl
        | some ob =>
          by_cases c : b = p
          · rw [c, hp1] at e; cases e
          · rw [keep1 b ob (s1 _ _ q) c] at e; cases e
      refine ⟨_, rfl, (n : Int), congrArg (fun z => [V.int z]) (by rw [← hn]; rfl), by omega, by omega, fun D2 hD2 => ?_⟩
      refine lc_range (lo := 0) (n := n) (fun i H' => Same H1 H' ∧ ∃ ts : List Addr, H' D2 = some (.lst (ts.map V.ref)) ∧ ts.length = i ∧ ∀ (j : Nat) (t : Addr), ts[j]? = some t → H t = none ∧ H' t = some (.tup [.int (next (Rc89.told (ss.map Int.toNat)) j 0 : Nat), .int (next (Rc89.told (ss.map Int.toNat)) j 1 : Nat)]))
        ⟨same_upd hD2, [], upd_same, rfl, fun j t e => by simp at e⟩ (fun i H' hi ⟨s2, ts, h2, h3, h4⟩ => ?_) (fun H2 h => ?_)
      · refine ⟨rfl, _, rfl, _, rfl, _, _, rfl, rfl, .inl ⟨by decide, by decide⟩, _, _, rfl, rfl, a, _, _, _, rfl, rfl, s2.seq ha1, at_of (j := 3 * i + 1) (by omega) (nn_at nn (by omega)),
          _, rfl, _, rfl, _, _, rfl, rfl, .inl ⟨by decide, by decide⟩, _, _, rfl, rfl, a, _, _, _, rfl, rfl, s2.seq ha1, at_of (j := 3 * i + 2) (by omega) (nn_at nn (by omega)), (by show 2 ≤ sizeLine; decide), fun t ht => ?_⟩
        have nt : D2 ≠ t := ne_of_none h2 ht
        refine ⟨ts.map V.ref, by rw [upd_ne nt]; exact h2, by rw [List.length_map, h3]; exact size_lt (by omega), same_into (same_into s2 (s2.free ht)) hD2, ts ++ [t], by rw [upd_same, List.map_append]; rfl, by rw [List.length_append, h3]; rfl, fun j u hu => ?_⟩
        by_cases c : j < i
        · rw [List.getElem?_append_left (by omega)] at hu
          obtain ⟨e0, e⟩ := h4 j u hu
          rw [upd_ne (ne_of e h2 (by intro z; cases z)), upd_ne (ne_of_none e ht)]
          exact ⟨e0, e⟩
        · have hj : j = i := by
            have := (List.getElem?_eq_some_iff.mp hu).1
            rw [List.length_append, h3] at this
            have : ([t] : List Addr).length = 1 := rfl
            omega
          subst hj
          have eu : u = t := by
            rw [List.getElem?_append_right (by omega), h3, Nat.sub_self] at hu
            exact (Option.some.inj hu).symm
          subst eu
          refine ⟨frH _ (s2.free ht), ?_⟩
          rw [upd_ne (fun q => nt q.symm), upd_same, told_next0 _ (by rw [List.length_map]; omega), told_next1 _ (by rw [List.length_map]; omega)]
      · obtain ⟨s2, ts, h2, h3, h4⟩ := h
        refine ⟨_, rfl, p, CM, dx, _, rfl, s2 _ _ hp1, T.clM, T.nN, (by show 1 < 1000; decide), ?_⟩
        have nP : D2 ≠ p := fun q => by rw [q, hp1] at hD2; cases hD2
        refine k _ ⟨dx, D, D2, ts, ?_, ?_, ?_, by rw [h3, tl], fun j t e => ?_⟩ fun b o e hb => ?_
        · rw [nw_at (.inl rfl), upd_same, f2_new (by decide +kernel)]
        · rw [nw_at (.inr hD), upd_ne pD]; exact s2 _ _ hD1
        · rw [nw_at (.inr (frH _ hD2)), upd_ne nP]; exact h2
        · obtain ⟨e0, e1⟩ := h4 j t e
          rw [nw_at (.inr e0), upd_ne (ne_of e1 (s2 _ _ hp1) (by intro z; cases z))]
          exact e1
        · rw [upd_ne hb]
          exact s2 _ _ (keep1 _ _ (s1 _ _ e) hb)
end
end Gt
/-! ## GtD3 -/
namespace Gt
open PySem PySem.Spec PyProof.Rows L2
open Rc89 (act next)
section
variable {P : Program} {w : World} {K : PySem.W.Frag} {mg : Str → Option Value} {base : Heap} {CM CP CX CT : Addr}
/-! ### Machine.many -/
def spMany (C : Addr) : Sp := fun vs H Q _ => ∃ (a : Addr) (A : Rc89.Machine), vs = [.ref a] ∧ MachAt C H a A ∧ Q (.int (A.length : Nat)) H
theorem scMany : FnScope ["self"] ["self"] (defScope sMany) := ⟨rfl, rfl, rfl, by decide +kernel, rfl, by decide +kernel, by decide +kernel⟩
theorem ok_many {f : Addr} {fd : FuncData} (F : Fun K "many" "Machine.many" sMany f fd) (T : Txt K mg CM CP CX CT) : FnOk P w K mg base CX0 1 f fd ["self"] (spMany CM) := by
  refine F.ok scMany (fun vs H Q E h => ?_) (fun cdv A outer s H vs Q E hr h => ?_)
  · obtain ⟨a, A, rfl, _⟩ := h
    rfl
  · obtain ⟨a, A, rfl, ⟨dx, ld, ln, ts, h1, h2, h3, h4, h5⟩, k⟩ := h
    refine ⟨_, pss_one (ps_ret (pe_callB call_len_seq (by rfl) T.len PySem.boot_len (pa_cons (pe_fld (pv 0) rfl) pa_nil))), ?_⟩
    refine ⟨_, rfl, a, CM, dx, _, _, rfl, h1, T.clM, T.nD, f2_fst, ld, _, rfl, .inl (SqL.of h2), ?_⟩
    have e : ((lN (A.map fun x => x.1)).length : Nat) = A.length := by unfold lN; rw [List.length_map, List.length_map]
    rw [e]
    exact k
/-! ### Machine.reached -/
def spReached (C : Addr) : Sp := fun vs H Q _ => ∃ (a : Addr) (A : Rc89.Machine), vs = [.ref a] ∧ MachAt C H a A ∧ Ok A ∧ ∀ (H' : Hp) (p : Addr) (ks : List Nat), Same H H' → H p = none → H' p = some (.lst (lN ks)) → Rch A ks → Q (.ref p) H'
theorem scReached : FnScope ["self", "found", "waiting", "state"] ["self"] (defScope sReached) := ⟨rfl, rfl, rfl, by decide +kernel, rfl, by decide +kernel, by decide +kernel⟩
theorem ok_reached {f : Addr} {fd : FuncData} (F : Fun K "reached" "Machine.reached" sReached f fd) (T : Txt K mg CM CP CX CT) : FnOk P w K mg base CX0 1 f fd ["self"] (spReached CM) := by
  refine F.ok scReached (fun vs H Q E h => ?_) (fun cdv A outer s H vs Q E hr h => ?_)
  · obtain ⟨a, A, rfl, _⟩ := h
    rfl
  · obtain ⟨a, A, rfl, ⟨dx, ld, ln, ts, h1, h2, h3, h4, h5⟩, o, k⟩ := h
    refine ⟨_, pss_cons (ps_set (i := 1) scReached.nd rfl (Or.inl rfl) (pe_lst pa_nil))
      (pss_cons (ps_set (i := 2) scReached.nd rfl (Or.inl rfl) (pe_lst (pa_cons pe_int pa_nil)))
      (pss_cons (ps_while PassesOwn.never (pt_cmpR (op_neD hr.units) (pv 2) (pe_lst pa_nil) (nomark _))
        (pss_cons (ps_set (i := 3) scReached.nd rfl (Or.inl rfl) (pe_bm0 PySem.F.plainAttrs_list PySem.F.slot_list_pop PySem.F.type_list_pop mt_pop (pv 2)))
        (pss_one (ps_if (pt_cmpR op_notIn_seq (pv 3) (pv 1) (by rfl))
          (pss_cons (ps_expr (pe_bm PySem.F.plainAttrs_list PySem.F.slot_list_append PySem.F.type_list_append mt_append (pv 1) (pa_cons (pv 3) pa_nil)))
          (pss_one (ps_expr (pe_bm PySem.F.plainAttrs_list PySem.F.slot_list_extend PySem.F.type_list_extend mt_extendT (pv 2) (pa_cons (pe_ix ix_list (pe_fld (pv 0) rfl) (pv 3) (fun _ _ => rfl)) pa_nil))))) pss_nil))))
      (pss_one (ps_ret (pv 1))))), ?_⟩
    refine ⟨Nat.zero_le _, fun p hp => ⟨(by show 1 ≤ sizeLine; decide), fun q hq => ?_⟩⟩
    have npq : p ≠ q := fun e => by rw [← e, upd_same] at hq; cases hq
    have hq0 : H q = none := (same_upd hp).free hq
    refine while_m (fun m σ H' => ∃ (v3 : Option V) (fo wa : List Nat), m = 3 * (A.length - fo.length) + wa.length ∧ σ = [some (.ref a), some (.ref p), some (.ref q), v3] ∧ Same H H' ∧ H' p = some (.lst (lN fo)) ∧ H' q = some (.lst (lN wa)) ∧ Dfs A fo wa ∧ wa.length ≤ fo.length + 1)
      (3 * (A.length - 0) + 1) ⟨none, [], [0], rfl, rfl, same_into (same_into (Same.refl H) hp) hq0, by rw [upd_ne npq]; exact upd_same, upd_same, Dfs.start A, Nat.le_refl _⟩ ?_
    rintro m σ H' ⟨v3, fo, wa, rfl, rfl, s1, hp1, hq1, df, hwl⟩
    refine ⟨_, rfl, Nat.zero_le _, fun z hz => ne_nil_nats hq1 hz ⟨_, rfl, ?_⟩⟩
    generalize hH2 : upd H' z (.lst []) = H2
    have s2 : Same H H2 := by rw [← hH2]; exact same_into s1 (s1.free hz)
    have hp2 : H2 p = some (.lst (lN fo)) := by rw [← hH2, upd_ne (ne_of_none hp1 hz)]; exact hp1
    have hq2 : H2 q = some (.lst (lN wa)) := by rw [← hH2, upd_ne (ne_of_none hq1 hz)]; exact hq1
    cases ew : wa.isEmpty with
    | true =>
      refine iteF ?_
      have : wa = [] := List.isEmpty_iff.mp ew
      subst this
      exact ⟨_, rfl, k H2 p fo s2 hp hp2 df.done⟩
    | false =>
      refine iteT ?_
      obtain ⟨wr, x, rfl⟩ := last_of ew
      have hx : x < A.length := (df.rw x (by simp)).lt o
      rw [lN_app] at hq2
      refine ⟨_, fun σ' H' h => h, ?_⟩
      refine ⟨_, rfl, .inl ⟨rfl, _, SqL.of hq2⟩, q, _, _, rfl, rfl, hq2, pop_at, ?_⟩
      rw [show lN wr ++ lN [x] = lN wr ++ [V.int (x : Int)] from rfl, pop_rest]
      generalize hH3 : upd H2 q (.lst (lN wr)) = H3
      have s3 : Same H H3 := by rw [← hH3]; exact same_into s2 hq0
      have hp3 : H3 p = some (.lst (lN fo)) := by rw [← hH3, upd_ne npq]; exact hp2
      have hq3 : H3 q = some (.lst (lN wr)) := by rw [← hH3]; exact upd_same
      refine ⟨_, rfl, _, rfl, p, _, rfl, .inl (SqL.of hp3), rfl, flat_nats fo, _, rfl, ?_⟩
      have hfl := df.len o
      rw [if_pos rfl, in_nats]
      by_cases c : x ∈ fo
      · rw [decide_eq_true c]
        refine iteF ?_
        exact ⟨_, by rw [List.length_append]; show 3 * (A.length - fo.length) + wr.length < _ + (wr.length + 1); omega, _, fo, wr, rfl, rfl, s3, hp3, hq3, df.known c, by rw [List.length_append] at hwl; have hwl : wr.length + 1 ≤ fo.length + 1 := hwl; omega⟩
      · rw [decide_eq_false c]
        refine iteT ?_
        have df' := df.fresh c
        have hfl' := df'.len o
        rw [List.length_append] at hfl'
        have hfl' : fo.length + 1 ≤ A.length := hfl'
        have om := o.most
        refine ⟨_, rfl, .inl ⟨rfl, _, SqL.of hp3⟩, _, rfl, p, _, _, rfl, rfl, hp3, (by unfold lN; rw [List.length_map]; exact size_lt (by omega)), ?_⟩
        generalize hH4 : upd H3 p (.lst (lN fo ++ [V.int (x : Int)])) = H4
        have s4 : Same H H4 := by rw [← hH4]; exact same_into s3 hp
        have hp4 : H4 p = some (.lst (lN (fo ++ [x]))) := by rw [← hH4, upd_same, lN_app]; rfl
        have hq4 : H4 q = some (.lst (lN wr)) := by rw [← hH4, upd_ne (fun e => npq e.symm)]; exact hq3
        obtain ⟨t, ht⟩ : ∃ t, ts[x]? = some t := ⟨_, List.getElem?_eq_getElem (by omega)⟩
        have hwl2 : wr.length + 1 ≤ fo.length + 1 := by rw [List.length_append] at hwl; exact hwl
        refine ⟨_, rfl, .inl ⟨rfl, _, SqL.of hq4⟩, _, rfl, a, CM, dx, _, _, rfl, s4 _ _ h1, T.clM, T.nN, f2_snd (by decide +kernel), _, rfl, ln, _, _, _, rfl, rfl, SqL.of (s4 _ _ h3), atI_nat (refs_at' ht),
          q, t, _, _, rfl, rfl, hq4, SqT.of (s4 _ _ (h5 x t ht)), ?_, ?_⟩
        · unfold lN; rw [List.length_map]; show wr.length + 2 ≤ sizeLine; exact size_small (by omega)
        · refine ⟨_, ?_, _, fo ++ [x], wr ++ [next A x 0, next A x 1], rfl, rfl, same_into s4 hq0, by rw [upd_ne npq]; exact hp4, by rw [upd_same, lN_app]; rfl, df', ?_⟩
          · rw [List.length_append, List.length_append, List.length_append]
            show 3 * (A.length - (fo.length + 1)) + (wr.length + 2) < 3 * (A.length - fo.length) + (wr.length + 1)
            omega
          · rw [List.length_append, List.length_append]
            show wr.length + 2 ≤ fo.length + 1 + 1
            omega
/-! ### may_be -/
def good (l : List Nat) (j : Nat) : Prop := l.getD (3 * j) 0 ≤ 1 ∧ l.getD (3 * j + 1) 0 < l.length / 3 ∧ l.getD (3 * j + 2) 0 < l.length / 3
theorem fine_iff (l : List Nat) : Rc89.fine (Rc89.told l) = true ↔ 1 ≤ l.length / 3 ∧ l.length / 3 ≤ 16 ∧ ∀ j, j < l.length / 3 → good l j := by
  unfold Rc89.fine
  rw [Bool.and_eq_true, Bool.and_eq_true, decide_eq_true_eq, decide_eq_true_eq, List.all_eq_true, told_len]
  refine and_congr Iff.rfl (and_congr Iff.rfl ?_)
  constructor
  · intro h j hj
    have := h _ (List.mem_of_getElem? (told_at l hj))
    rw [Bool.and_eq_true, Bool.and_eq_true, decide_eq_true_eq, decide_eq_true_eq, decide_eq_true_eq] at this
    exact this
  · intro h x hx
    obtain ⟨j, hj⟩ := List.getElem?_of_mem hx
    have hl := (List.getElem?_eq_some_iff.mp hj).1
    rw [told_len] at hl
    rw [told_at l hl] at hj
    have e := Option.some.inj hj
    subst e
    rw [Bool.and_eq_true, Bool.and_eq_true, decide_eq_true_eq, decide_eq_true_eq, decide_eq_true_eq]
    exact h j hl
def spMayBe (K : PySem.W.Frag) : Sp := fun vs H Q _ => ∃ (a : Addr) (ss : List Int), vs = [.ref a] ∧ SqL K H a (lI ss) ∧ (∀ z ∈ ss, 0 ≤ z ∧ z ≤ 255) ∧ ss.length ≤ 48 ∧ Q (.bl (decide (ss.length % 3 = 0) && Rc89.fine (Rc89.told (ss.map Int.toNat)))) H
theorem scMayBe : FnScope ["states", "many", "k"] ["states"] (defScope sMayBe) := ⟨rfl, rfl, rfl, by decide +kernel, rfl, by decide +kernel, by decide +kernel⟩
theorem ok_maybe {f : Addr} {fd : FuncData} (F : Fun K "may_be" "may_be" sMayBe f fd) (T : Txt K mg CM CP CX CT) : FnOk P w K mg base CX0 1 f fd ["states"] (spMayBe K) := by
  refine F.ok scMayBe (fun vs H Q E h => ?_) (fun cdv A outer s H vs Q E hr h => ?_)
  · obtain ⟨a, ss, rfl, _⟩ := h
    rfl
  · obtain ⟨a, ss, rfl, ha, nn, hl, k⟩ := h
    obtain ⟨tk, cMS⟩ := T.cMS
    refine ⟨_, pss_cons (ps_set (i := 1) scMayBe.nd rfl (Or.inl rfl) (pe_op op_fdiv (pe_callB call_len_seq (by rfl) T.len PySem.boot_len (pa_cons (pv 0) pa_nil)) pe_int))
      (pss_cons (ps_if (PW.pt (pw_or (pt_cmpR op_gt (pe_op op_mod (pe_callB call_len_seq (by rfl) T.len PySem.boot_len (pa_cons (pv 0) pa_nil)) pe_int) pe_int (nomark _))
          (pw_or (pt_cmpR op_lt (pv 1) pe_int (nomark _)) (pw_or1 (pt_cmpR op_gt (pv 1) (pe_glob (v := .int 16) (by rfl) cMS ⟨_, rfl⟩) (nomark _))))))
        (pss_one (ps_ret pe_bl)) pss_nil)
      (pss_cons (ps_for PassesOwn.never rfl (pi_range1 (by rfl) T.range (pa_cons (pv 1) pa_nil)) (pg_name (i := 2) scMayBe.nd rfl (Or.inl rfl))
        (pss_one (ps_if (PW.pt (pw_or (pt_cmpR op_gt (pe_ix ix_list (pv 0) (pe_op op_mul pe_int (pv 2)) (fun _ _ => rfl)) pe_int (nomark _))
          (pw_or (pt_cmpR op_ge (pe_ix ix_list (pv 0) (pe_op op_add (pe_op op_mul pe_int (pv 2)) pe_int) (fun _ _ => rfl)) (pv 1) (nomark _))
          (pw_or1 (pt_cmpR op_ge (pe_ix ix_list (pv 0) (pe_op op_add (pe_op op_mul pe_int (pv 2)) pe_int) (fun _ _ => rfl)) (pv 1) (nomark _))))))
          (pss_one (ps_ret pe_bl)) pss_nil)))
      (pss_one (ps_ret pe_bl)))), ?_⟩
    refine ⟨_, rfl, a, _, rfl, .inl ha, (ss.length : Int), _, congrArg V.int (lI_len ss), rfl, ⟨by decide, by decide⟩, ?_⟩
    refine ⟨_, rfl, a, _, rfl, .inl ha, (ss.length : Int), _, congrArg V.int (lI_len ss), rfl, (by show (0 : Int) < 3; decide), _, _, rfl, rfl, _, rfl, ?_⟩
    have hlen : (ss.map Int.toNat).length = ss.length := List.length_map _
    have no : ∀ {c : Prop}, c → (c → ¬ (ss.length % 3 = 0 ∧ Rc89.fine (Rc89.told (ss.map Int.toNat)) = true)) → Q (.bl false) H := by
      intro c hc h
      have e : (decide (ss.length % 3 = 0) && Rc89.fine (Rc89.told (ss.map Int.toNat))) = false := by
        cases e : (decide (ss.length % 3 = 0) && Rc89.fine (Rc89.told (ss.map Int.toNat))) with
        | false => rfl
        | true =>
          rw [Bool.and_eq_true, decide_eq_true_eq] at e
          exact absurd e (h hc)
      rw [e] at k
      exact k
    refine itd (fun c => ?_) (fun c1 => ?_)
    · refine iteT (no c fun c h => ?_)
      have := h.1
      omega
    refine ⟨_, rfl, _, _, rfl, rfl, _, rfl, ?_⟩
    refine itd (fun c => ?_) (fun c2 => ?_)
    · refine iteT (no c fun c h => ?_)
      rw [fine_iff, hlen] at h
      have c : ((ss.length : Int) / 3) < 1 := c
      omega
    refine ⟨_, rfl, _, _, rfl, rfl, _, rfl, ?_⟩
    refine itd (fun c => ?_) (fun c3 => ?_)
    · refine no c fun c h => ?_
      rw [fine_iff, hlen] at h
      have c : (16 : Int) < ((ss.length : Int) / 3) := c
      omega
    have c2 : ¬ ((ss.length : Int) / 3) < 1 := c2
    have c3 : ¬ (16 : Int) < ((ss.length : Int) / 3) := c3
    have c1 : ¬ (0 : Int) < ((ss.length : Int) % 3) := c1
    generalize hn : ss.length / 3 = n
    have hi : (ss.length : Int) / 3 = (n : Int) := by rw [← hn]; rfl
    refine ⟨_, rfl, (n : Int), congrArg (fun z => [V.int z]) hi, by omega, by omega, ?_⟩
    refine for_range (lo := 0) (n := n) (fun i σ H' => (∃ v : Option V, σ = [some (.ref a), some (.int ((ss.length : Int) / 3)), v]) ∧ H' = H ∧ ∀ j, j < i → good (ss.map Int.toNat) j) ⟨⟨none, rfl⟩, rfl, fun j h => by omega⟩ ?_ ?_
    · rintro i σ H' hin ⟨⟨v, rfl⟩, rfl, hg⟩
      have bad : ¬ good (ss.map Int.toNat) i → Q (.bl false) H' := fun hb => no hb fun hb h => by
        rw [fine_iff] at h
        exact hb (h.2.2.2 i (by rw [hlen]; omega))
      refine ⟨_, rfl, _, rfl, _, _, rfl, rfl, .inl ⟨by decide, by decide⟩, a, _, _, _, rfl, rfl, ha, at_of (j := 3 * i) (by omega) (nn_at nn (by omega)), _, _, rfl, rfl, _, rfl, ?_⟩
      refine itd (fun c => ?_) (fun d1 => ?_)
      · refine iteT (bad fun g => ?_)
        have := g.1
        omega
      refine ⟨_, rfl, _, rfl, _, _, rfl, rfl, .inl ⟨by decide, by decide⟩, _, _, rfl, rfl, a, _, _, _, rfl, rfl, ha, at_of (j := 3 * i + 1) (by omega) (nn_at nn (by omega)), _, rfl, _, _, rfl, rfl, _, rfl, ?_⟩
      refine itd (fun c => ?_) (fun d2 => ?_)
      · refine iteT (bad fun g => ?_)
        have := g.2.1
        rw [hlen] at this
        omega
      refine ⟨_, rfl, _, rfl, _, _, rfl, rfl, .inl ⟨by decide, by decide⟩, _, _, rfl, rfl, a, _, _, _, rfl, rfl, ha, at_of (j := 3 * i + 2) (by omega) (nn_at nn (by omega)), _, rfl, _, _, rfl, rfl, _, rfl, ?_⟩
      refine itd (fun c => ?_) (fun d3 => ?_)
      · refine bad fun g => ?_
        have := g.2.2
        rw [hlen] at this
        omega
      refine ⟨⟨_, rfl⟩, rfl, fun j hj => ?_⟩
      by_cases e : j = i
      · subst e
        exact ⟨by omega, by rw [hlen]; omega, by rw [hlen]; omega⟩
      · exact hg j (by omega)
    · rintro σ H' ⟨⟨v, rfl⟩, rfl, hg⟩
      have e : (decide (ss.length % 3 = 0) && Rc89.fine (Rc89.told (ss.map Int.toNat))) = true := by
        rw [Bool.and_eq_true, decide_eq_true_eq, fine_iff, hlen]
        exact ⟨by omega, by omega, by omega, fun j hj => hg j (by omega)⟩
      rw [e] at k
      exact k
end
end Gt
/-! ## GtD4 -/
namespace Gt
open PySem PySem.Spec PyProof.Rows L2
open Rc89 (act next)
/-! ### tuples stay -/
def Tups (H H' : Hp) : Prop := ∀ b xs, H b = some (.tup xs) → H' b = some (.tup xs)
theorem tups_new {H : Hp} {p : Addr} {o : HO} (h : H p = none) : Tups H (upd H p o) := fun b xs e => by rw [upd_ne (ne_of_none e h)]; exact e
theorem tups_at {H : Hp} {p : Addr} {u o : HO} (h : H p = some u) (n : ∀ xs, u ≠ .tup xs) : Tups H (upd H p o) := fun b xs e => by
  rw [upd_ne (ne_of e h (fun q => n xs q.symm))]
  exact e
theorem Tups.trans {H H1 H2 : Hp} (a : Tups H H1) (b : Tups H1 H2) : Tups H H2 := fun c xs e => b c xs (a c xs e)
/-- pairs by their tuples -/
abbrev PL := List (Addr × (Nat × Nat))
def refsP (ws : PL) : List V := ws.map fun p => V.ref p.1
def PairsIn (H : Hp) (ws : PL) : Prop := ∀ p ∈ ws, H p.1 = some (.tup [.int (p.2.1 : Nat), .int (p.2.2 : Nat)])
theorem PairsIn.keep {H H' : Hp} {ws : PL} (t : Tups H H') (h : PairsIn H ws) : PairsIn H' ws := fun p hp => t _ _ (h p hp)
theorem dp_pairs {K : PySem.W.Frag} {H : Hp} : ∀ {ws : PL}, PairsIn H ws → DpAll K H (refsP ws) (ws.map fun p => PyData.tuple [.int (p.2.1 : Nat), .int (p.2.2 : Nat)])
  | [], _ => .nil
  | p :: ws, h => .cons (.tup (SqT.of (h p List.mem_cons_self)) (.cons (.int _) (.cons (.int _) .nil))) (dp_pairs fun q hq => h q (List.mem_cons_of_mem _ hq))
theorem shaped_pairs (ws : PL) : SeqAt.shaped (.list (ws.map fun p => PyData.tuple [.int (p.2.1 : Nat), .int (p.2.2 : Nat)])) = true := by
  have h1 : ∀ ws : PL, PyData.canLayAll0 (ws.map fun p => PyData.tuple [.int (p.2.1 : Nat), .int (p.2.2 : Nat)]) = true := by
    intro l
    induction l with
    | nil => rfl
    | cons a l ih => simp [PyData.canLayAll0, PyData.canLay0, ih]
  have h2 : ∀ ws : PL, PyData.depthAll (ws.map fun p => PyData.tuple [.int (p.2.1 : Nat), .int (p.2.2 : Nat)]) ≤ 3 := by
    intro l
    induction l with
    | nil => simp [PyData.depthAll]
    | cons a l ih => simp [PyData.depthAll, PyData.depth]; omega
  have h3 := h2 ws
  unfold SeqAt.shaped
  simp [PyData.canLay0, PyData.depth, h1 ws]
  omega
theorem ne_nil_pairs {K : PySem.W.Frag} {H : Hp} {l p : Addr} {ws : PL} {Q : VK} (h : H l = some (.lst (refsP ws))) (hw : PairsIn H ws) (hp : H p = none) (q : Q (.bl (!ws.isEmpty)) (upd H p (.lst []))) : rNeD K (.ref l) (.ref p) (upd H p (.lst [])) Q := by
  refine ⟨_, _, .lst (SqL.of (by rw [upd_ne (ne_of_none h hp)]; exact h)) (dp_pairs (hw.keep (tups_new hp))), .lst (SqL.of upd_same) .nil, shaped_pairs ws, shaped_nil, ?_⟩
  rw [eqv_nil, List.isEmpty_map]
  exact q
/-- a dict by pairs -/
abbrev kP (p : Nat × Nat) : List Key := [.inl (p.1 : Int), .inl (p.2 : Int)]
theorem kP_inj {p q : Nat × Nat} (h : kP p = kP q) : p = q := by
  injection h with h1 h2
  injection h2 with h2 _
  have h1 := Sum.inl.inj h1
  have h2 := Sum.inl.inj h2
  exact Prod.ext (by omega) (by omega)
def dPairs (fo : List (Nat × Nat)) : List (List Key × V) := fo.map fun p => (kP p, V.bl true)
theorem dPairs_val (p : Nat × Nat) : ∀ fo : List (Nat × Nat), valV (dPairs fo) (kP p) = if p ∈ fo then some (.bl true) else none
  | [] => rfl
  | q :: fo => by
    show valV ((kP q, V.bl true) :: dPairs fo) (kP p) = _
    by_cases e : q = p
    · subst e
      rw [valV_pos rfl, if_pos List.mem_cons_self]
    · rw [valV_neg (fun z => e (kP_inj z)), dPairs_val p fo]
      by_cases m : p ∈ fo
      · rw [if_pos m, if_pos (List.mem_cons_of_mem _ m)]
      · rw [if_neg m, if_neg (fun z => by rcases List.mem_cons.mp z with z | z; exact e z.symm; exact m z)]
section
variable {P : Program} {w : World} {K : PySem.W.Frag} {mg : Str → Option Value} {base : Heap} {CM CP CX CT : Addr}
/-! ### are_same -/
def spSame (C : Addr) : Sp := fun vs H Q _ => ∃ (a b : Addr) (A B : Rc89.Machine), vs = [.ref a, .ref b] ∧ MachAt C H a A ∧ MachAt C H b B ∧ Ok A ∧ Ok B ∧ ∀ H' : Hp, Same H H' → Q (.bl (Rc89.same A B)) H'
theorem scSame : FnScope ["one", "other", "found", "waiting", "first", "second", "deed"] ["one", "other"] (defScope sSame) := ⟨rfl, rfl, rfl, by decide +kernel, rfl, by decide +kernel, by decide +kernel⟩
theorem ok_same {f : Addr} {fd : FuncData} (F : Fun K "are_same" "are_same" sSame f fd) (T : Txt K mg CM CP CX CT) : FnOk P w K mg base CX0 1 f fd ["one", "other"] (spSame CM) := by
  refine F.ok scSame (fun vs H Q E h => ?_) (fun cdv Ar outer s H vs Q E hr h => ?_)
  · obtain ⟨a, b, A, B, rfl, _⟩ := h
    rfl
  · obtain ⟨a, b, A, B, rfl, ⟨dx, ld, ln, ts, h1, h2, h3, h4, h5⟩, ⟨dx', ld', ln', ts', g1, g2, g3, g4, g5⟩, oA, oB, k⟩ := h
    have hu := hu_of hr
    refine ⟨_, pss_cons (ps_set (i := 2) scSame.nd rfl (Or.inl rfl) pe_dnewT)
      (pss_cons (ps_set (i := 3) scSame.nd rfl (Or.inl rfl) (pe_lst (pa_cons (pe_tup (pa_cons pe_int (pa_cons pe_int pa_nil))) pa_nil)))
      (pss_cons (ps_while PassesOwn.never (pt_cmpR (op_neD hr.units) (pv 3) (pe_lst pa_nil) (nomark _))
        (pss_cons (ps_asg (pe_bm0 PySem.F.plainAttrs_list PySem.F.slot_list_pop PySem.F.type_list_pop mt_pop (pv 3)) (pg_tup (by rfl) (pgs_cons (pg_name (i := 4) scSame.nd rfl (Or.inr rfl)) (pgs_cons (pg_name (i := 5) scSame.nd rfl (Or.inr rfl)) pgs_nil))))
        (pss_cons (ps_if (pt_cmpR op_ne (pe_ix ix_list (pe_fld (pv 0) rfl) (pv 4) (fun _ _ => rfl)) (pe_ix ix_list (pe_fld (pv 1) rfl) (pv 5) (fun _ _ => rfl)) (nomark _)) (pss_one (ps_ret pe_bl)) pss_nil)
        (pss_one (ps_if (pt_cmp (pc_dnotin hu (pe_tup (pa_cons (pv 4) (pa_cons (pv 5) pa_nil))) (pv 2)))
          (pss_cons (ps_dput hu (pv 2) (pe_tup (pa_cons (pv 4) (pa_cons (pv 5) pa_nil))) pe_bl rfl)
          (pss_one (ps_expr (pe_bm PySem.F.plainAttrs_list PySem.F.slot_list_extend PySem.F.type_list_extend mt_extend (pv 3)
            (pa_cons (pe_lc (own := [("deed", 6)]) (g := gName 6) (tt := tYes)
                (te := tTup (tCons (tOp (rIxT K) (tOp (rIxL K) (tFld K (tVar 0) "nexts") (tVar 4)) (tVar 6)) (tCons (tOp (rIxT K) (tOp (rIxL K) (tFld K (tVar 1) "nexts") (tVar 5)) (tVar 6)) tNil)))
                (by rfl) scSame.nd (pi_tup (pe_tup (pa_cons pe_int (pa_cons pe_int pa_nil))))
                (blkOk_by (own := [("deed", 6)]) (N := ["one", "other", "found", "waiting", "first", "second", "deed"]) (sc := defScope sSame) (by decide +kernel))
                (fun _ _ _ _ _ => pg_name (i := 6) scSame.nd rfl (Or.inl rfl)) (fun _ _ _ _ _ => pts_nil)
                (fun _ _ _ _ _ => pe_tup (pa_cons (pe_ix ix_tup (pe_ix ix_list (pe_fld (pv 0) rfl) (pv 4) (fun _ _ => rfl)) (pv 6) (fun _ _ => rfl)) (pa_cons (pe_ix ix_tup (pe_ix ix_list (pe_fld (pv 1) rfl) (pv 5) (fun _ _ => rfl)) (pv 6) (fun _ _ => rfl)) pa_nil)))) pa_nil))))) pss_nil)))))
      (pss_one (ps_ret pe_bl)))), ?_⟩
    refine fun p hp => ⟨(by show 2 ≤ sizeLine; decide), fun t ht => ⟨(by show 1 ≤ sizeLine; decide), fun q hq => ?_⟩⟩
    have ht0 : H t = none := (same_upd hp).free ht
    have hq1 : upd H p (.dT []) q = none := (same_upd ht).free hq
    have hq0 : H q = none := (same_upd hp).free hq1
    have npt : p ≠ t := fun e => by rw [← e, upd_same] at ht; cases ht
    have ntq : t ≠ q := fun e => by rw [← e, upd_same] at hq; cases hq
    have npq : p ≠ q := fun e => by rw [← e, upd_ne npt, upd_same] at hq; cases hq
    have big : A.length * B.length ≤ 256 := by
      have := Nat.mul_le_mul oA.most oB.most
      omega
    refine while_m (fun m σ H' => ∃ (v4 v5 : Option V) (fo : List (Nat × Nat)) (ws : PL), m = 3 * (A.length * B.length - fo.length) + ws.length ∧ σ = [some (.ref a), some (.ref b), some (.ref p), some (.ref q), v4, v5, none] ∧ Same H H' ∧ H' p = some (.dT (dPairs fo)) ∧ H' q = some (.lst (refsP ws)) ∧ PairsIn H' ws ∧
        Sme A B fo (ws.map (·.2)) ∧ ws.length ≤ fo.length + 1)
      (3 * (A.length * B.length - 0) + 1) ⟨none, none, [], [(t, (0, 0))], rfl, rfl, same_into (same_into (same_into (Same.refl H) hp) ht0) hq0, by rw [upd_ne npq, upd_ne npt]; exact upd_same, upd_same, ?_, Sme.start A B, Nat.le_refl _⟩ ?_
    · intro z hz
      rw [List.mem_singleton] at hz
      rw [hz, upd_ne ntq]
      exact upd_same
    rintro m σ H' ⟨v4, v5, fo, ws, rfl, rfl, s1, hp1, hq1, hw1, sm, hwl⟩
    refine ⟨_, rfl, Nat.zero_le _, fun z hz => ne_nil_pairs hq1 hw1 hz ⟨_, rfl, ?_⟩⟩
    generalize hH2 : upd H' z (.lst []) = H2
    have s2 : Same H H2 := by rw [← hH2]; exact same_into s1 (s1.free hz)
    have hp2 : H2 p = some (.dT (dPairs fo)) := by rw [← hH2, upd_ne (ne_of_none hp1 hz)]; exact hp1
    have hq2 : H2 q = some (.lst (refsP ws)) := by rw [← hH2, upd_ne (ne_of_none hq1 hz)]; exact hq1
    have hw2 : PairsIn H2 ws := by rw [← hH2]; exact hw1.keep (tups_new hz)
    cases ew : ws.isEmpty with
    | true =>
      refine iteF ?_
      have : ws = [] := List.isEmpty_iff.mp ew
      subst this
      have := k H2 s2
      rw [sm.done oA oB] at this
      exact this
    | false =>
      refine iteT ?_
      obtain ⟨wr, ⟨ta, x, y⟩, rfl⟩ := last_of ew
      have hta : H2 ta = some (.tup [.int (x : Nat), .int (y : Nat)]) := hw2 (ta, x, y) (by simp)
      have hwr : PairsIn H2 wr := fun p hp => hw2 p (List.mem_append_left _ hp)
      rw [List.map_append] at sm
      have sm : Sme A B fo (wr.map (·.2) ++ [(x, y)]) := sm
      have hxy := sm.lt_w oA oB (p := (x, y)) (by simp)
      have hx : x < A.length := hxy.1
      have hy : y < B.length := hxy.2
      have e1 : refsP (wr ++ [(ta, x, y)]) = refsP wr ++ [V.ref ta] := by unfold refsP; rw [List.map_append]; rfl
      rw [e1] at hq2
      refine ⟨_, fun σ' H' h => h, ?_⟩
      refine ⟨_, rfl, .inl ⟨rfl, _, SqL.of hq2⟩, q, _, _, rfl, rfl, hq2, pop_at, ?_⟩
      rw [pop_rest]
      generalize hH3 : upd H2 q (.lst (refsP wr)) = H3
      have s3 : Same H H3 := by rw [← hH3]; exact same_into s2 hq0
      have hp3 : H3 p = some (.dT (dPairs fo)) := by rw [← hH3, upd_ne npq]; exact hp2
      have hq3 : H3 q = some (.lst (refsP wr)) := by rw [← hH3]; exact upd_same
      have tu : Tups H2 H3 := by rw [← hH3]; exact tups_at hq2 (fun xs z => by cases z)
      have hw3 : PairsIn H3 wr := hwr.keep tu
      refine ⟨ta, _, rfl, SqT.of (tu _ _ hta), rfl, _, _, rfl, _, _, rfl, rfl, ?_⟩
      -- if one.deeds[first] != other.deeds[second]
      refine ⟨_, rfl, a, CM, dx, _, _, rfl, s3 _ _ h1, T.clM, T.nD, f2_fst, _, rfl, ld, _, _, _, rfl, rfl, SqL.of (s3 _ _ h2), atI_nat (deed_at hx),
        _, rfl, b, CM, dx', _, _, rfl, s3 _ _ g1, T.clM, T.nD, f2_fst, _, rfl, ld', _, _, _, rfl, rfl, SqL.of (s3 _ _ g2), atI_nat (deed_at hy), rfl, _, rfl, ?_⟩
      refine itnd (fun c => ?_) (fun c => ?_)
      · have ne : act A x ≠ act B y := fun q => c (by rw [q])
        have := k H3 s3
        rw [sm.unlike oA oB ne] at this
        exact this
      have eq : act A x = act B y := by
        have := V.int.inj c
        omega
      -- if (first, second) not in found
      refine ⟨_, rfl, _, rfl, (by show 2 ≤ sizeLine; decide), fun tk htk => ⟨_, rfl, p, _, rfl, DGet.t (k := kP (x, y)) (by rw [upd_ne (ne_of_none hp3 htk)]; exact hp3) upd_same, _, rfl, ?_⟩⟩
      generalize hH4 : upd H3 tk (.tup [.int (x : Nat), .int (y : Nat)]) = H4
      have s4 : Same H H4 := by rw [← hH4]; exact same_into s3 (s3.free htk)
      have hp4 : H4 p = some (.dT (dPairs fo)) := by rw [← hH4, upd_ne (ne_of_none hp3 htk)]; exact hp3
      have hq4 : H4 q = some (.lst (refsP wr)) := by rw [← hH4, upd_ne (ne_of_none hq3 htk)]; exact hq3
      have hw4 : PairsIn H4 wr := by rw [← hH4]; exact hw3.keep (tups_new htk)
      rw [dPairs_val]
      have hwl2 : wr.length + 1 ≤ fo.length + 1 := by rw [List.length_append] at hwl; exact hwl
      by_cases c : (x, y) ∈ fo
      · rw [if_pos c]
        refine iteF ?_
        refine ⟨_, by rw [List.length_append]; show 3 * (A.length * B.length - fo.length) + wr.length < _ + (wr.length + 1); omega, _, _, fo, wr, rfl, rfl, s4, hp4, hq4, hw4, sm.known c, by omega⟩
      · rw [if_neg c]
        refine iteT ?_
        have sm' := sm.fresh oA oB c eq
        have hfl := sm'.len
        rw [List.length_append] at hfl
        have hfl : fo.length + 1 ≤ A.length * B.length := hfl
        -- found[(first, second)] = True
        refine ⟨_, rfl, _, rfl, _, rfl, (by show 2 ≤ sizeLine; decide), fun tk2 htk2 => ⟨p, _, rfl, DPut.t (k := kP (x, y)) (by rw [upd_ne (ne_of_none hp4 htk2)]; exact hp4) upd_same (by unfold dPairs; rw [List.length_map]; exact size_lt (by omega)), ?_⟩⟩
        have en : putK (dPairs fo) (kP (x, y)) (V.bl true) = dPairs (fo ++ [(x, y)]) := by
          rw [putK_new _ (by rw [dPairs_val, if_neg c])]
          unfold dPairs
          rw [List.map_append]
          rfl
        rw [en]
        generalize hH5 : upd H4 tk2 (.tup [.int (x : Nat), .int (y : Nat)]) = H5
        have s5 : Same H H5 := by rw [← hH5]; exact same_into s4 (s4.free htk2)
        have hp5 : H5 p = some (.dT (dPairs fo)) := by rw [← hH5, upd_ne (ne_of_none hp4 htk2)]; exact hp4
        have hq5 : H5 q = some (.lst (refsP wr)) := by rw [← hH5, upd_ne (ne_of_none hq4 htk2)]; exact hq4
        have hw5 : PairsIn H5 wr := by rw [← hH5]; exact hw4.keep (tups_new htk2)
        generalize hH6 : upd H5 p (.dT (dPairs (fo ++ [(x, y)]))) = H6
        have s6 : Same H H6 := by rw [← hH6]; exact same_into s5 hp
        have hp6 : H6 p = some (.dT (dPairs (fo ++ [(x, y)]))) := by rw [← hH6]; exact upd_same
        have hq6 : H6 q = some (.lst (refsP wr)) := by rw [← hH6, upd_ne (fun e => npq e.symm)]; exact hq5
        have hw6 : PairsIn H6 wr := by rw [← hH6]; exact hw5.keep (tups_at hp5 (fun xs z => by cases z))
        obtain ⟨tx, htx⟩ : ∃ t, ts[x]? = some t := ⟨_, List.getElem?_eq_getElem (by omega)⟩
        obtain ⟨ty, hty⟩ : ∃ t, ts'[y]? = some t := ⟨_, List.getElem?_eq_getElem (by omega)⟩
        have at0 : ∀ (C : Rc89.Machine) (z d : Nat), d < 2 → atI [V.int (next C z 0 : Nat), V.int (next C z 1 : Nat)] (d : Int) = some (.int (next C z d : Nat)) := by
          intro C z d hd
          refine atI_nat ?_
          match d, hd with
          | 0, _ => rfl
          | 1, _ => rfl
        -- waiting.extend([..])
        refine ⟨_, rfl, .inl ⟨rfl, _, SqL.of hq6⟩, ?_⟩
        refine ⟨(by show 2 ≤ sizeLine; decide), fun tc htc => ⟨tc, rfl, ⟨_, SqT.of upd_same⟩, fun D hD => ?_⟩⟩
        have hD6 : H6 D = none := (same_upd htc).free hD
        have ntD : tc ≠ D := fun e => by rw [← e, upd_same] at hD; cases hD
        refine lc_tup (K := K) (a := tc) (xs := [V.int 0, V.int 1]) (fun i H' => Same (upd H6 tc (.tup [V.int 0, V.int 1])) H' ∧ ∃ us : PL, H' D = some (.lst (refsP us)) ∧ PairsIn H' us ∧ us.map (·.2) = ([0, 1].take i).map fun d => (next A x d, next B y d))
          ⟨same_upd hD, [], upd_same, fun p hp => by simp at hp, rfl⟩ (fun i H' _ ⟨s7, _⟩ => SqT.of (s7 _ _ upd_same)) (fun i z H7 hi ⟨s7, us, hD7, hw7, em⟩ => ?_) (fun H7 ⟨s7, us, hD7, hw7, em⟩ => ?_)
        · obtain ⟨d, hd, rfl⟩ : ∃ d : Nat, ([0, 1] : List Nat)[i]? = some d ∧ z = V.int (d : Int) := lN_get (l := [0, 1]) hi
          have d2 : d < 2 := by
            have := List.mem_of_getElem? hd
            simp at this
            omega
          have s67 : Same H6 H7 := (same_upd htc).trans s7
          have s7' : Same H H7 := s6.trans s67
          refine ⟨rfl, _, rfl, a, CM, dx, _, _, rfl, s7' _ _ h1, T.clM, T.nN, f2_snd (by decide +kernel), _, rfl, ln, _, _, _, rfl, rfl, SqL.of (s7' _ _ h3), atI_nat (refs_at' htx), _, rfl, tx, _, _, _, rfl, rfl, SqT.of (s7' _ _ (h5 x tx htx)), at0 A x d d2,
            _, rfl, b, CM, dx', _, _, rfl, s7' _ _ g1, T.clM, T.nN, f2_snd (by decide +kernel), _, rfl, ln', _, _, _, rfl, rfl, SqL.of (s7' _ _ g3), atI_nat (refs_at' hty), _, rfl, ty, _, _, _, rfl, rfl, SqT.of (s7' _ _ (g5 y ty hty)), at0 B y d d2,
            (by show 2 ≤ sizeLine; decide), fun tn htn => ⟨refsP us, by rw [upd_ne (ne_of_none hD7 htn)]; exact hD7, ?_, ?_⟩⟩
          · have hl := congrArg List.length em
            rw [List.length_map, List.length_map, List.length_take] at hl
            have hi2 : ([0, 1] : List Nat).length = 2 := rfl
            unfold refsP
            rw [List.length_map]
            exact size_lt (by omega)
          · refine ⟨same_into (same_into s7 (s7.free htn)) hD, us ++ [(tn, (next A x d, next B y d))], by rw [upd_same]; unfold refsP; rw [List.map_append]; rfl, ?_, ?_⟩
            · intro r hr
              rcases List.mem_append.mp hr with hr | hr
              · have e := hw7 r hr
                rw [upd_ne (ne_of e hD7 (by intro z; cases z)), upd_ne (ne_of_none e htn)]
                exact e
              · rw [List.mem_singleton] at hr
                rw [hr]
                show upd (upd H7 tn _) D _ tn = _
                rw [upd_ne (fun z => by rw [z, hD7] at htn; cases htn)]
                exact upd_same
            · rw [List.map_append, em, take_more hd, List.map_append]
              rfl
        · have s67 : Same H6 H7 := (same_upd htc).trans s7
          have s7' : Same H H7 := s6.trans s67
          have hus : us.length = 2 := by
            have hl := congrArg List.length em
            rw [List.length_map, List.length_map] at hl
            exact hl
          have hq7 : H7 q = some (.lst (refsP wr)) := s67 _ _ hq6
          refine ⟨q, D, _, _, rfl, rfl, hq7, hD7, ?_, ?_⟩
          · unfold refsP
            rw [List.length_map, List.length_map]
            exact size_small (by omega)
          · refine ⟨_, ?_, _, _, fo ++ [(x, y)], wr ++ us, rfl, rfl, same_into s7' hq0, by rw [upd_ne npq]; exact s67 _ _ hp6, by rw [upd_same]; unfold refsP; rw [List.map_append], ?_, ?_, ?_⟩
            · rw [List.length_append, List.length_append, List.length_append, hus]
              show 3 * (A.length * B.length - (fo.length + 1)) + (wr.length + 2) < 3 * (A.length * B.length - fo.length) + (wr.length + 1)
              omega
            · intro r hr
              have e : H7 r.1 = some (.tup [.int (r.2.1 : Nat), .int (r.2.2 : Nat)]) := by
                rcases List.mem_append.mp hr with hr | hr
                · exact s67 _ _ (hw6 r hr)
                · exact hw7 r hr
              rw [upd_ne (ne_of e hq7 (by intro z; cases z))]
              exact e
            · rw [List.map_append, em]
              exact sm'
            · rw [List.length_append, List.length_append, hus]
              show wr.length + 2 ≤ fo.length + 1 + 1
              omega
end
end Gt
/-! ## GtD5 -/
namespace Gt
open PySem PySem.Spec PyProof.Rows L2
open Rc89 (act next)
section
variable {P : Program} {w : World} {K : PySem.W.Frag} {mg : Str → Option Value} {base : Heap} {CM CP CX CT : Addr}
/-! ### Pay.__init__, Pay.of -/
def spPInit (C : Addr) : Sp := fun vs H Q _ => ∃ (p dx : Addr) (r u t n : Int), vs = [.ref p, .int r, .int u, .int t, .int n] ∧ H p = some (.ins C dx []) ∧
  ∀ H' : Hp, PayAt C (nw H H' p) p ⟨r, u, t, n⟩ → (∀ b o, H b = some o → b ≠ p → H' b = some o) → Q .non H'
theorem scPInit : FnScope ["self", "both", "given", "taken", "none"] ["self", "both", "given", "taken", "none"] (defScope sPInit) := ⟨rfl, rfl, rfl, by decide +kernel, rfl, by decide +kernel, by decide +kernel⟩
theorem ok_pinit {f : Addr} {fd : FuncData} (F : Fun K "__init__" "Pay.__init__" sPInit f fd) (T : Txt K mg CM CP CX CT) : FnOk P w K mg base CX0 1 f fd ["self", "both", "given", "taken", "none"] (spPInit CP) := by
  refine F.ok scPInit (fun vs H Q E h => ?_) (fun cdv Ar outer s H vs Q E hr h => ?_)
  · obtain ⟨p, dx, r, u, t, n, rfl, _⟩ := h
    rfl
  · obtain ⟨p, dx, r, u, t, n, rfl, hp, k⟩ := h
    refine ⟨_, pss_one (ps_fld (pv 0) (pe_tup (pa_cons (pe_tup (pa_cons (pv 1) (pa_cons (pv 2) pa_nil))) (pa_cons (pe_tup (pa_cons (pv 3) (pa_cons (pv 4) pa_nil))) pa_nil))) rfl), ?_⟩
    refine ⟨_, rfl, _, rfl, (by show 2 ≤ sizeLine; decide), fun t0 h0 => ⟨_, rfl, _, rfl, (by show 2 ≤ sizeLine; decide), fun t1 h1 => ⟨(by show 2 ≤ sizeLine; decide), fun tt htt => ?_⟩⟩⟩
    have n0 : p ≠ t0 := ne_of_none hp h0
    have h1' : H t1 = none := (same_upd h0).free h1
    have n1 : p ≠ t1 := ne_of_none hp h1'
    have htt1 := (same_upd h1).free htt
    have htt' : H tt = none := (same_upd h0).free htt1
    have n2 : p ≠ tt := ne_of_none hp htt'
    have n01 : t0 ≠ t1 := fun e => by rw [← e, upd_same] at h1; cases h1
    have n1t : t1 ≠ tt := fun e => by rw [← e, upd_same] at htt; cases htt
    have n0t : t0 ≠ tt := fun e => by rw [← e, upd_ne n01, upd_same] at htt; cases htt
    refine ⟨_, rfl, p, CP, dx, [], rfl, by rw [upd_ne n2, upd_ne n1, upd_ne n0]; exact hp, T.clP, T.nA, (by show 0 < 1000; decide), ?_⟩
    refine k _ ⟨dx, tt, t0, t1, ?_, ?_, ?_, ?_⟩ fun b o e hb => ?_
    · rw [nw_at (.inl rfl)]; exact upd_same
    · rw [nw_at (.inr htt'), upd_ne (fun z => n2 z.symm)]; exact upd_same
    · rw [nw_at (.inr h0), upd_ne (fun z => n0 z.symm), upd_ne n0t, upd_ne n01]; exact upd_same
    · rw [nw_at (.inr h1'), upd_ne (fun z => n1 z.symm), upd_ne n1t]; exact upd_same
    · rw [upd_ne hb, upd_ne (ne_of_none e htt'), upd_ne (ne_of_none e h1'), upd_ne (ne_of_none e h0)]; exact e
def spOf (C : Addr) : Sp := fun vs H Q _ => ∃ (a : Addr) (g : Rc89.Pay) (x y : Nat), vs = [.ref a, .int (x : Int), .int (y : Int)] ∧ PayAt C H a g ∧ x ≤ 1 ∧ y ≤ 1 ∧ Q (.int (Rc89.pay g x y)) H
theorem scOf : FnScope ["self", "own", "other"] ["self", "own", "other"] (defScope sOf) := ⟨rfl, rfl, rfl, by decide +kernel, rfl, by decide +kernel, by decide +kernel⟩
theorem ok_of {f : Addr} {fd : FuncData} (F : Fun K "of" "Pay.of" sOf f fd) (T : Txt K mg CM CP CX CT) : FnOk P w K mg base CX0 1 f fd ["self", "own", "other"] (spOf CP) := by
  refine F.ok scOf (fun vs H Q E h => ?_) (fun cdv Ar outer s H vs Q E hr h => ?_)
  · obtain ⟨a, g, x, y, rfl, _⟩ := h
    rfl
  · obtain ⟨a, g, x, y, rfl, ⟨dx, t, t0, t1, h1, h2, h3, h4⟩, hx, hy, k⟩ := h
    refine ⟨_, pss_one (ps_ret (pe_ix ix_tup (pe_ix ix_tup (pe_fld (pv 0) rfl) (pv 1) (fun _ _ => rfl)) (pv 2) (fun _ _ => rfl))), ?_⟩
    have hb : ∀ z : Nat, z ≤ 1 → z = 0 ∨ z = 1 := fun z h => by omega
    rcases hb x hx with rfl | rfl
    · refine ⟨_, rfl, a, CP, dx, _, _, rfl, h1, T.clP, T.nA, f1_at, _, rfl, t, _, _, _, rfl, rfl, SqT.of h2, atI_nat (j := 0) rfl, _, rfl, ?_⟩
      rcases hb y hy with rfl | rfl
      · exact ⟨t0, _, _, _, rfl, rfl, SqT.of h3, atI_nat (j := 0) rfl, k⟩
      · exact ⟨t0, _, _, _, rfl, rfl, SqT.of h3, atI_nat (j := 1) rfl, k⟩
    · refine ⟨_, rfl, a, CP, dx, _, _, rfl, h1, T.clP, T.nA, f1_at, _, rfl, t, _, _, _, rfl, rfl, SqT.of h2, atI_nat (j := 1) rfl, _, rfl, ?_⟩
      rcases hb y hy with rfl | rfl
      · exact ⟨t1, _, _, _, rfl, rfl, SqT.of h4, atI_nat (j := 0) rfl, k⟩
      · exact ⟨t1, _, _, _, rfl, rfl, SqT.of h4, atI_nat (j := 1) rfl, k⟩
end
end Gt
/-! ## GtD6 -/
namespace Gt
open PySem PySem.Spec PyProof.Rows L2
open Rc89 (act next again since path)
/-! ### the heap without one object -/
def del (H : Hp) (x : Addr) : Hp := fun b => if b = x then none else H b
theorem del_self {H : Hp} {x : Addr} : del H x x = none := if_pos rfl
theorem del_ne {H : Hp} {x b : Addr} (h : b ≠ x) : del H x b = H b := if_neg h
theorem del_same {H : Hp} {x : Addr} : Same (del H x) H := fun b o e => by
  by_cases h : b = x
  · rw [h, del_self] at e; cases e
  · rw [del_ne h] at e; exact e
theorem del_free {H : Hp} {x p : Addr} (h : H p = none) : del H x p = none := by
  by_cases c : p = x
  · rw [c]; exact del_self
  · rw [del_ne c]; exact h
theorem same_keep {H H' : Hp} {x : Addr} (s : Same (del H x) H') : ∀ b o, H b = some o → b ≠ x → H' b = some o := fun b o e h => s b o (by rw [del_ne h]; exact e)
theorem mach_del {C C' a x dx : Addr} {H : Hp} {A : Rc89.Machine} (hx : H x = some (.ins C' dx [])) (h : MachAt C H a A) : MachAt C (del H x) a A := by
  obtain ⟨dy, ld, ln, ts, h1, h2, h3, h4, h5⟩ := h
  refine ⟨dy, ld, ln, ts, ?_, ?_, ?_, h4, fun i t e => ?_⟩
  · rw [del_ne (ne_of h1 hx (by intro z; cases z))]; exact h1
  · rw [del_ne (ne_of h2 hx (by intro z; cases z))]; exact h2
  · rw [del_ne (ne_of h3 hx (by intro z; cases z))]; exact h3
  · have e1 := h5 i t e
    rw [del_ne (ne_of e1 hx (by intro z; cases z))]; exact e1
/-! ### a dict of pairs by their places -/
def dFrom : Nat → List (Nat × Nat) → List (List Key × V)
  | _, [] => []
  | n, p :: l => (kP p, V.int (n : Int)) :: dFrom (n + 1) l
theorem dFrom_no {p : Nat × Nat} : ∀ {l : List (Nat × Nat)} {n : Nat}, ¬ p ∈ l → valV (dFrom n l) (kP p) = none
  | [], _, _ => rfl
  | q :: l, n, h => by
    rw [dFrom, valV_neg (fun z => h (by rw [kP_inj z]; exact List.mem_cons_self))]
    exact dFrom_no fun m => h (List.mem_cons_of_mem _ m)
theorem dFrom_at {p : Nat × Nat} : ∀ {l : List (Nat × Nat)} {n j : Nat}, l.Nodup → l[j]? = some p → valV (dFrom n l) (kP p) = some (.int ((n + j : Nat) : Int))
  | [], _, _, _, h => by simp at h
  | q :: l, n, 0, _, h => by
    have e : q = p := Option.some.inj h
    rw [dFrom, e, valV_pos rfl]
    rfl
  | q :: l, n, j + 1, nd, h => by
    have h : l[j]? = some p := h
    have nd := List.nodup_cons.mp nd
    have ne : q ≠ p := fun z => nd.1 (by rw [z]; exact List.mem_of_getElem? h)
    rw [dFrom, valV_neg (fun z => ne (kP_inj z)), dFrom_at nd.2 h]
    rw [show n + 1 + j = n + (j + 1) by omega]
theorem dFrom_snoc {p : Nat × Nat} : ∀ {l : List (Nat × Nat)} {n : Nat}, dFrom n l ++ [(kP p, V.int ((n + l.length : Nat) : Int))] = dFrom n (l ++ [p])
  | [], n => rfl
  | q :: l, n => by
    rw [List.cons_append, dFrom, dFrom, List.cons_append, ← dFrom_snoc (p := p) (l := l) (n := n + 1), List.length_cons, show n + 1 + l.length = n + (l.length + 1) by omega]
theorem dFrom_put {p : Nat × Nat} {l : List (Nat × Nat)} (h : ¬ p ∈ l) : putK (dFrom 0 l) (kP p) (V.int (l.length : Int)) = dFrom 0 (l ++ [p]) := by
  rw [putK_new _ (dFrom_no h), ← dFrom_snoc, Nat.zero_add]
theorem dFrom_len : ∀ (l : List (Nat × Nat)) (n : Nat), (dFrom n l).length = l.length
  | [], _ => rfl
  | q :: l, n => by rw [dFrom, List.length_cons, dFrom_len l, List.length_cons]
/-! ### the match -/
def acts (A B : Rc89.Machine) (m : Nat) : List (Nat × Nat) := (path A B m (0, 0)).map fun s => (act A s.1, act B s.2)
theorem acts_len (A B : Rc89.Machine) (m : Nat) : (acts A B m).length = m := by unfold acts; rw [List.length_map, path_len]
theorem acts_snoc (A B : Rc89.Machine) (m : Nat) : acts A B (m + 1) = acts A B m ++ [(act A (it A B m (0, 0)).1, act B (it A B m (0, 0)).2)] := by
  unfold acts
  rw [path_snoc, List.map_append]
  rfl
def MatchAt (C : Addr) (H : Hp) (a : Addr) (A B : Rc89.Machine) : Prop := ∃ (dx lm : Addr) (ms : PL), H a = some (.ins C dx (f2 "moves" "since" (.ref lm) (.int (since A B : Nat)))) ∧ H lm = some (.lst (refsP ms)) ∧ PairsIn H ms ∧ ms.map (·.2) = acts A B (again A B)
section
variable {P : Program} {w : World} {K : PySem.W.Frag} {mg : Str → Option Value} {base : Heap} {CM CP CX CT : Addr}
def spXInit (CM C : Addr) : Sp := fun vs H Q _ => ∃ (x dx a b : Addr) (A B : Rc89.Machine), vs = [.ref x, .ref a, .ref b] ∧ H x = some (.ins C dx []) ∧ MachAt CM H a A ∧ MachAt CM H b B ∧ Ok A ∧ Ok B ∧
  ∀ H' : Hp, MatchAt C H' x A B → (∀ b o, H b = some o → b ≠ x → H' b = some o) → Q .non H'
theorem scXInit : FnScope ["self", "one", "other", "met", "states", "deeds"] ["self", "one", "other"] (defScope sXInit) := ⟨rfl, rfl, rfl, by decide +kernel, rfl, by decide +kernel, by decide +kernel⟩
theorem ok_xinit {f : Addr} {fd : FuncData} (F : Fun K "__init__" "Match.__init__" sXInit f fd) (T : Txt K mg CM CP CX CT) : FnOk P w K mg base CX0 1 f fd ["self", "one", "other"] (spXInit CM CX) := by
  refine F.ok scXInit (fun vs H Q E h => ?_) (fun cdv Ar outer s H vs Q E hr h => ?_)
  · obtain ⟨x, dx, a, b, A, B, rfl, _⟩ := h
    rfl
  · obtain ⟨x, dx, a, b, A, B, rfl, hx, hA, hB, oA, oB, k⟩ := h
    obtain ⟨da, ld, ln, ts, h1, h2, h3, h4, h5⟩ := mach_del hx hA
    obtain ⟨db, ld', ln', ts', g1, g2, g3, g4, g5⟩ := mach_del hx hB
    have hu := hu_of hr
    refine ⟨_, pss_cons (ps_fld (pv 0) (pe_lst pa_nil) rfl)
      (pss_cons (ps_set (i := 3) scXInit.nd rfl (Or.inl rfl) pe_dnewT)
      (pss_cons (ps_set (i := 4) scXInit.nd rfl (Or.inl rfl) (pe_tup (pa_cons pe_int (pa_cons pe_int pa_nil))))
      (pss_cons (ps_while PassesOwn.never (pt_cmp (pc_dnotin hu (pv 4) (pv 3)))
        (pss_cons (ps_dput hu (pv 3) (pv 4) (pe_callB call_len_seq (by rfl) T.len PySem.boot_len (pa_cons (pe_fld (pv 0) rfl) pa_nil)) rfl)
        (pss_cons (ps_set (i := 5) scXInit.nd rfl (Or.inl rfl) (pe_tup (pa_cons (pe_ix ix_list (pe_fld (pv 1) rfl) (pe_ix ix_tup (pv 4) pe_int (fun _ _ => rfl)) (fun _ _ => rfl)) (pa_cons (pe_ix ix_list (pe_fld (pv 2) rfl) (pe_ix ix_tup (pv 4) pe_int (fun _ _ => rfl)) (fun _ _ => rfl)) pa_nil))))
        (pss_cons (ps_expr (pe_bm PySem.F.plainAttrs_list PySem.F.slot_list_append PySem.F.type_list_append mt_append (pe_fld (pv 0) rfl) (pa_cons (pv 5) pa_nil)))
        (pss_one (ps_set (i := 4) scXInit.nd rfl (Or.inl rfl) (pe_tup (pa_cons (pe_ix ix_tup (pe_ix ix_list (pe_fld (pv 1) rfl) (pe_ix ix_tup (pv 4) pe_int (fun _ _ => rfl)) (fun _ _ => rfl)) (pe_ix ix_tup (pv 5) pe_int (fun _ _ => rfl)) (fun _ _ => rfl))
          (pa_cons (pe_ix ix_tup (pe_ix ix_list (pe_fld (pv 2) rfl) (pe_ix ix_tup (pv 4) pe_int (fun _ _ => rfl)) (fun _ _ => rfl)) (pe_ix ix_tup (pv 5) pe_int (fun _ _ => rfl)) (fun _ _ => rfl)) pa_nil)))))))))
      (pss_one (ps_fld (pv 0) (pe_dget hu (pv 3) (pv 4) (fun _ _ => rfl)) rfl))))), ?_⟩
    have big : A.length * B.length ≤ 256 := by
      have := Nat.mul_le_mul oA.most oB.most
      omega
    generalize hH0 : del H x = H0 at h1 h2 h3 h5 g1 g2 g3 g5
    have s0 : Same H0 H := by rw [← hH0]; exact del_same
    have x0 : H0 x = none := by rw [← hH0]; exact del_self
    -- self.moves = []
    refine ⟨Nat.zero_le _, fun lm hlm => ⟨_, rfl, x, CX, dx, [], rfl, by rw [upd_ne (ne_of_none hx hlm)]; exact hx, T.clX, T.nMv, (by show 0 < 1000; decide), ?_⟩⟩
    have nxl : x ≠ lm := ne_of_none hx hlm
    have l0 : H0 lm = none := s0.free hlm
    generalize hH1 : upd (upd H lm (.lst [])) x (.ins CX dx (putF "moves" (.ref lm) [])) = H1
    have s1 : Same H0 H1 := by rw [← hH1]; exact same_into (same_into s0 l0) x0
    have hx1 : H1 x = some (.ins CX dx (f1 "moves" (.ref lm))) := by rw [← hH1]; exact upd_same
    have hl1 : H1 lm = some (.lst []) := by rw [← hH1, upd_ne (fun e => nxl e.symm)]; exact upd_same
    -- met = {}; states = (0, 0)
    refine fun d hd => ⟨(by show 2 ≤ sizeLine; decide), fun t ht => ?_⟩
    have nxd : x ≠ d := ne_of_none hx1 hd
    have nld : lm ≠ d := ne_of_none hl1 hd
    have ht1 : H1 t = none := (same_upd hd).free ht
    have ndt : d ≠ t := fun e => by rw [← e, upd_same] at ht; cases ht
    refine while_m (fun m σ H' => ∃ (n : Nat) (tt : Addr) (v5 : Option V) (ms : PL), m = 257 - n ∧ σ = [some (.ref x), some (.ref a), some (.ref b), some (.ref d), some (.ref tt), v5] ∧ Same H0 H' ∧ H' x = some (.ins CX dx (f1 "moves" (.ref lm))) ∧ H' lm = some (.lst (refsP ms)) ∧ PairsIn H' ms ∧ ms.map (·.2) = acts A B n ∧
        H' d = some (.dT (dFrom 0 (path A B n (0, 0)))) ∧ H' tt = some (.tup [.int ((it A B n (0, 0)).1 : Nat), .int ((it A B n (0, 0)).2 : Nat)]) ∧ Rnd A B n) 257
      ⟨0, t, none, [], rfl, rfl, same_into (same_into s1 (s1.free hd)) (s1.free ht1), by rw [upd_ne (ne_of_none hx1 ht1), upd_ne nxd]; exact hx1, by rw [upd_ne (ne_of_none hl1 ht1), upd_ne nld]; exact hl1, fun p hp => by simp at hp, rfl, by rw [upd_ne ndt]; exact upd_same, upd_same, Rnd.start A B⟩ ?_
    rintro m σ H' ⟨n, tt, v5, ms, rfl, rfl, s2, hx2, hl2, hw2, em, hd2, ht2, rn⟩
    have hnl := rn.le oA oB
    generalize hst : it A B n (0, 0) = st at ht2
    obtain ⟨u, v⟩ := st
    have hlt := it_lt oA oB n (0, 0) oA.pos oB.pos
    rw [hst] at hlt
    have hul : u < A.length := hlt.1
    have hvl : v < B.length := hlt.2
    refine ⟨_, rfl, _, rfl, d, _, rfl, DGet.t (k := kP (u, v)) hd2 ht2, _, rfl, ?_⟩
    by_cases c : (u, v) ∈ path A B n (0, 0)
    · -- it came round
      obtain ⟨j, hj⟩ := List.getElem?_of_mem c
      have ev := dFrom_at (n := 0) rn.nd hj
      obtain ⟨ea, es, hjn⟩ := rn.done oA oB (j := j) (by rw [hj, hst])
      rw [ev]
      refine iteF ?_
      refine ⟨_, rfl, _, rfl, d, _, rfl, by have g := DGet.t (k := kP (u, v)) hd2 ht2; rw [ev] at g; exact g, _, rfl, x, CX, dx, _, rfl, hx2, T.clX, T.nS, (by show 1 < 1000; decide), ?_⟩
      rw [f2_new (by decide +kernel)]
      refine k _ ⟨dx, lm, ms, ?_, ?_, ?_, ?_⟩ fun b o e hb => ?_
      · rw [upd_same, es, Nat.zero_add]
      · rw [upd_ne (fun e => nxl e.symm)]; exact hl2
      · exact hw2.keep (tups_at hx2 (fun xs z => by cases z))
      · rw [em, ea]
      · rw [upd_ne hb]
        refine s2 b o ?_
        rw [← hH0, del_ne hb]
        exact e
    · rw [dFrom_no c]
      refine iteT ⟨_, fun σ' H' h => h, ?_⟩
      have elen : ms.length = n := by
        have := congrArg List.length em
        rw [List.length_map, acts_len] at this
        exact this
      -- met[states] = len(self.moves)
      refine ⟨_, rfl, x, CX, dx, _, _, rfl, hx2, T.clX, T.nMv, f1_at, lm, _, rfl, .inl (SqL.of hl2), _, rfl, _, rfl, d, _, rfl, DPut.t (k := kP (u, v)) hd2 ht2 (by rw [dFrom_len, path_len]; exact size_lt (by omega)), ?_⟩
      have en : putK (dFrom 0 (path A B n (0, 0))) (kP (u, v)) (V.int ((refsP ms).length : Int)) = dFrom 0 (path A B (n + 1) (0, 0)) := by
        have e1 : (refsP ms).length = (path A B n (0, 0)).length := by unfold refsP; rw [List.length_map, elen, path_len]
        rw [e1, dFrom_put c, path_snoc, hst]
      rw [en]
      generalize hH3 : upd H' d (.dT (dFrom 0 (path A B (n + 1) (0, 0)))) = H3
      have d0 : H0 d = none := s1.free hd
      have s3 : Same H0 H3 := by rw [← hH3]; exact same_into s2 d0
      have tu3 : Tups H' H3 := by rw [← hH3]; exact tups_at hd2 (fun xs z => by cases z)
      have hx3 : H3 x = some (.ins CX dx (f1 "moves" (.ref lm))) := by rw [← hH3, upd_ne nxd]; exact hx2
      have hl3 : H3 lm = some (.lst (refsP ms)) := by rw [← hH3, upd_ne nld]; exact hl2
      have hw3 := hw2.keep tu3
      have hd3 : H3 d = some (.dT (dFrom 0 (path A B (n + 1) (0, 0)))) := by rw [← hH3]; exact upd_same
      have ht3 := tu3 _ _ ht2
      -- deeds = (.., ..)
      refine ⟨_, rfl, a, CM, da, _, _, rfl, s3 _ _ h1, T.clM, T.nD, f2_fst, _, rfl, tt, _, 0, _, rfl, rfl, SqT.of ht3, atI_nat (j := 0) rfl, ld, _, _, _, rfl, rfl, SqL.of (s3 _ _ h2), atI_nat (deed_at hul),
        _, rfl, b, CM, db, _, _, rfl, s3 _ _ g1, T.clM, T.nD, f2_fst, _, rfl, tt, _, 1, _, rfl, rfl, SqT.of ht3, atI_nat (j := 1) rfl, ld', _, _, _, rfl, rfl, SqL.of (s3 _ _ g2), atI_nat (deed_at hvl), (by show 2 ≤ sizeLine; decide), fun td htd => ?_⟩
      generalize hH4 : upd H3 td (.tup [.int (act A u : Nat), .int (act B v : Nat)]) = H4
      have s4 : Same H0 H4 := by rw [← hH4]; exact same_into s3 (s3.free htd)
      have tu4 : Tups H3 H4 := by rw [← hH4]; exact tups_new htd
      have hx4 : H4 x = some (.ins CX dx (f1 "moves" (.ref lm))) := by rw [← hH4, upd_ne (ne_of_none hx3 htd)]; exact hx3
      have hl4 : H4 lm = some (.lst (refsP ms)) := by rw [← hH4, upd_ne (ne_of_none hl3 htd)]; exact hl3
      have hw4 := hw3.keep tu4
      have hd4 : H4 d = some (.dT (dFrom 0 (path A B (n + 1) (0, 0)))) := by rw [← hH4, upd_ne (ne_of_none hd3 htd)]; exact hd3
      have htd4 : H4 td = some (.tup [.int (act A u : Nat), .int (act B v : Nat)]) := by rw [← hH4]; exact upd_same
      -- self.moves.append(deeds)
      refine ⟨_, rfl, x, CX, dx, _, _, rfl, hx4, T.clX, T.nMv, f1_at, .inl ⟨rfl, _, SqL.of hl4⟩, _, rfl, lm, _, _, rfl, rfl, hl4, (by unfold refsP; rw [List.length_map, elen]; exact size_lt (by omega)), ?_⟩
      have e5 : refsP ms ++ [V.ref td] = refsP (ms ++ [(td, (act A u, act B v))]) := by unfold refsP; rw [List.map_append]; rfl
      rw [e5]
      generalize hH5 : upd H4 lm (.lst (refsP (ms ++ [(td, (act A u, act B v))]))) = H5
      have s5 : Same H0 H5 := by rw [← hH5]; exact same_into s4 l0
      have tu5 : Tups H4 H5 := by rw [← hH5]; exact tups_at hl4 (fun xs z => by cases z)
      have hx5 : H5 x = some (.ins CX dx (f1 "moves" (.ref lm))) := by rw [← hH5, upd_ne nxl]; exact hx4
      have hl5 : H5 lm = some (.lst (refsP (ms ++ [(td, (act A u, act B v))]))) := by rw [← hH5]; exact upd_same
      have hd5 : H5 d = some (.dT (dFrom 0 (path A B (n + 1) (0, 0)))) := by rw [← hH5, upd_ne (fun e => nld e.symm)]; exact hd4
      have htd5 := tu5 _ _ htd4
      have hw5 : PairsIn H5 (ms ++ [(td, (act A u, act B v))]) := fun p hp => by
        rcases List.mem_append.mp hp with hp | hp
        · exact tu5 _ _ (hw4 p hp)
        · rw [List.mem_singleton] at hp
          rw [hp]
          exact htd5
      have ht5 := tu5 _ _ (tu4 _ _ ht3)
      obtain ⟨tx, htx⟩ : ∃ t, ts[u]? = some t := ⟨_, List.getElem?_eq_getElem (by omega)⟩
      obtain ⟨ty, hty⟩ : ∃ t, ts'[v]? = some t := ⟨_, List.getElem?_eq_getElem (by omega)⟩
      have at0 : ∀ (C : Rc89.Machine) (z d : Nat), d ≤ 1 → atI [V.int (next C z 0 : Nat), V.int (next C z 1 : Nat)] (d : Int) = some (.int (next C z d : Nat)) := by
        intro C z d hd
        refine atI_nat ?_
        match d, hd with
        | 0, _ => rfl
        | 1, _ => rfl
      -- states = (.., ..)
      refine ⟨_, rfl, a, CM, da, _, _, rfl, s5 _ _ h1, T.clM, T.nN, f2_snd (by decide +kernel), _, rfl, tt, _, 0, _, rfl, rfl, SqT.of ht5, atI_nat (j := 0) rfl, ln, _, _, _, rfl, rfl, SqL.of (s5 _ _ h3), atI_nat (refs_at' htx), _, rfl, td, _, 1, _, rfl, rfl, SqT.of htd5, atI_nat (j := 1) rfl,
        tx, _, _, _, rfl, rfl, SqT.of (s5 _ _ (h5 u tx htx)), at0 A u _ (oB.act_le v),
        _, rfl, b, CM, db, _, _, rfl, s5 _ _ g1, T.clM, T.nN, f2_snd (by decide +kernel), _, rfl, tt, _, 1, _, rfl, rfl, SqT.of ht5, atI_nat (j := 1) rfl, ln', _, _, _, rfl, rfl, SqL.of (s5 _ _ g3), atI_nat (refs_at' hty), _, rfl, td, _, 0, _, rfl, rfl, SqT.of htd5, atI_nat (j := 0) rfl,
        ty, _, _, _, rfl, rfl, SqT.of (s5 _ _ (g5 v ty hty)), at0 B v _ (oA.act_le u), (by show 2 ≤ sizeLine; decide), fun tn htn => ?_⟩
      have rn' := rn.step oA oB (by rw [hst]; exact c)
      have hnl' := rn'.le oA oB
      have est : it A B (n + 1) (0, 0) = (next A u (act B v), next B v (act A u)) := by rw [it_succ, hst]; rfl
      refine ⟨_, ?_, n + 1, tn, _, ms ++ [(td, (act A u, act B v))], rfl, rfl, same_into s5 (s5.free htn), by rw [upd_ne (ne_of_none hx5 htn)]; exact hx5, by rw [upd_ne (ne_of_none hl5 htn)]; exact hl5, hw5.keep (tups_new htn), ?_, by rw [upd_ne (ne_of_none hd5 htn)]; exact hd5, ?_, rn'⟩
      · omega
      · rw [List.map_append, em, acts_snoc, hst]
        rfl
      · rw [est]
        exact upd_same
end
end Gt
/-! ## GtD7 -/
namespace Gt
open PySem PySem.Spec PyProof.Rows L2
open Rc89 (act next again since path)
section
variable {P : Program} {w : World} {K : PySem.W.Frag} {mg : Str → Option Value} {base : Heap} {CM CP CX CT : Addr}
theorem MatchAt.same {C a : Addr} {H H' : Hp} {A B : Rc89.Machine} (s : Same H H') (h : MatchAt C H a A B) : MatchAt C H' a A B := by
  obtain ⟨dx, lm, ms, h1, h2, h3, h4⟩ := h
  exact ⟨dx, lm, ms, s _ _ h1, s _ _ h2, fun p hp => s _ _ (h3 p hp), h4⟩
/-! ### Match.turn -/
def spTurn (C : Addr) : Sp := fun vs H Q _ => ∃ (a : Addr) (A B : Rc89.Machine), vs = [.ref a] ∧ MatchAt C H a A B ∧ Ok A ∧ Ok B ∧ Q (.int (Rc89.turn A B : Nat)) H
theorem scTurn : FnScope ["self"] ["self"] (defScope sTurn) := ⟨rfl, rfl, rfl, by decide +kernel, rfl, by decide +kernel, by decide +kernel⟩
theorem ok_turn {f : Addr} {fd : FuncData} (F : Fun K "turn" "Match.turn" sTurn f fd) (T : Txt K mg CM CP CX CT) : FnOk P w K mg base CX0 1 f fd ["self"] (spTurn CX) := by
  refine F.ok scTurn (fun vs H Q E h => ?_) (fun cdv Ar outer s H vs Q E hr h => ?_)
  · obtain ⟨a, A, B, rfl, _⟩ := h
    rfl
  · obtain ⟨a, A, B, rfl, ⟨dx, lm, ms, h1, h2, h3, h4⟩, oA, oB, k⟩ := h
    refine ⟨_, pss_one (ps_ret (pe_op op_sub (pe_callB call_len_seq (by rfl) T.len PySem.boot_len (pa_cons (pe_fld (pv 0) rfl) pa_nil)) (pe_fld (pv 0) rfl))), ?_⟩
    have e1 : (refsP ms).length = again A B := by
      have := congrArg List.length h4
      rw [List.length_map, acts_len] at this
      unfold refsP
      rw [List.length_map, this]
    have sl := since_lt oA oB
    refine ⟨_, rfl, a, CX, dx, _, _, rfl, h1, T.clX, T.nMv, f2_fst, lm, _, rfl, .inl (SqL.of h2), _, rfl, a, CX, dx, _, _, rfl, h1, T.clX, T.nS, f2_snd (by decide +kernel), ((again A B : Nat) : Int), _, congrArg (fun n : Nat => V.int (n : Int)) e1, rfl, ?_⟩
    have e2 : ((again A B : Nat) : Int) - (since A B : Nat) = (Rc89.turn A B : Nat) := by unfold Rc89.turn; omega
    have e3 : V.int (((again A B : Nat) : Int) - (since A B : Nat)) = V.int (Rc89.turn A B : Nat) := congrArg V.int e2
    show Q (V.int (((again A B : Nat) : Int) - (since A B : Nat))) H
    rw [e3]
    exact k
/-! ### Match.times -/
def spTimes (C : Addr) : Sp := fun vs H Q _ => ∃ (a : Addr) (A B : Rc89.Machine) (i n : Nat), vs = [.ref a, .int (i : Int), .int (n : Int)] ∧ MatchAt C H a A B ∧ Ok A ∧ Ok B ∧ Q (.int (tms (since A B) (Rc89.turn A B) n i : Nat)) H
theorem scTimes : FnScope ["self", "place", "rounds"] ["self", "place", "rounds"] (defScope sTimes) := ⟨rfl, rfl, rfl, by decide +kernel, rfl, by decide +kernel, by decide +kernel⟩
theorem ok_times {f fT : Addr} {fd fdT : FuncData} (F : Fun K "times" "Match.times" sTimes f fd) (T : Txt K mg CM CP CX CT) (G : Md P w K mg base CX "turn" 1 ["self"] (spTurn CX) fT fdT) : FnOk P w K mg base CX0 2 f fd ["self", "place", "rounds"] (spTimes CX) := by
  refine F.ok scTimes (fun vs H Q E h => ?_) (fun cdv Ar outer s H vs Q E hr h => ?_)
  · obtain ⟨a, A, B, i, n, rfl, _⟩ := h
    rfl
  · obtain ⟨a, A, B, i, n, rfl, hM, oA, oB, k⟩ := h
    have hM' := hM
    obtain ⟨dx, lm, ms, h1, h2, h3, h4⟩ := hM
    refine ⟨_, pss_cons (ps_if (pt_cmpR op_ge (pv 1) (pv 2) (nomark _)) (pss_one (ps_ret pe_int)) pss_nil)
      (pss_cons (ps_if (pt_cmpR op_lt (pv 1) (pe_fld (pv 0) rfl) (nomark _)) (pss_one (ps_ret pe_int)) pss_nil)
      (pss_one (ps_ret (pe_op op_add (pe_op op_fdiv (pe_op op_sub (pe_op op_sub (pv 2) (pv 1)) pe_int) (pe_meth0 (pv 0) T.clX G.m G.ok hr G.b .nil pass0)) pe_int)))), ?_⟩
    have sl := since_lt oA oB
    have big : A.length * B.length ≤ 256 := by
      have := Nat.mul_le_mul oA.most oB.most
      omega
    refine ⟨_, rfl, _, rfl, _, _, rfl, rfl, _, rfl, ?_⟩
    refine itd (fun c => ?_) (fun c => ?_)
    · have e : tms (since A B) (Rc89.turn A B) n i = 0 := by unfold tms; rw [if_pos (by omega)]
      rw [e] at k
      exact k
    refine ⟨_, rfl, _, rfl, a, CX, dx, _, _, rfl, h1, T.clX, T.nS, f2_snd (by decide +kernel), _, _, rfl, rfl, _, rfl, ?_⟩
    refine itd (fun c2 => ?_) (fun c2 => ?_)
    · have e : tms (since A B) (Rc89.turn A B) n i = 1 := by unfold tms; rw [if_neg (by omega), if_pos (by omega)]
      rw [e] at k
      exact k
    refine ⟨_, rfl, _, rfl, _, _, rfl, rfl, _, _, rfl, rfl, _, rfl, a, dx, _, rfl, h1, f2_no (by decide +kernel) (by decide +kernel), a, A, B, rfl, hM', oA, oB, ((n - i - 1 : Nat) : Int), _, congrArg V.int (by omega), rfl, ⟨by unfold Rc89.turn; omega, by unfold Rc89.turn; omega⟩, ((((n - i - 1) / (Rc89.turn A B) : Nat)) : Int), _, rfl, rfl, ?_⟩
    have e : tms (since A B) (Rc89.turn A B) n i = (n - i - 1) / (Rc89.turn A B) + 1 := by unfold tms; rw [if_neg (by omega), if_neg (by omega)]
    rw [e] at k
    exact k
/-! ### Match.paid -/
theorem tms_le (j t k i : Nat) : tms j t k i ≤ k := by
  unfold tms
  split
  · omega
  · split
    · omega
    · have := Nat.div_le_self (k - i - 1) t
      omega
theorem pays_at {g : Rc89.Pay} {A B : Rc89.Machine} {i u v : Nat} (h : (acts A B (again A B))[i]? = some (u, v)) : (pays g A B).getD i 0 = Rc89.pay g u v ∧ (pays g B A).getD i 0 = Rc89.pay g v u := by
  unfold acts at h
  rw [List.getElem?_map] at h
  obtain ⟨st, h1, h2⟩ := Option.map_eq_some_iff.mp h
  injection h2 with q1 q2
  constructor
  · unfold pays
    rw [List.getD_eq_getElem?_getD, List.getElem?_map, h1, ← q1, ← q2]
    rfl
  · rw [pays_sw, List.getD_eq_getElem?_getD, List.getElem?_map, h1, ← q1, ← q2]
    rfl
def spPaid (CP C : Addr) : Sp := fun vs H Q _ => ∃ (a pa : Addr) (A B : Rc89.Machine) (g : Rc89.Pay) (n : Nat), vs = [.ref a, .ref pa, .int (n : Int)] ∧ MatchAt C H a A B ∧ PayAt CP H pa g ∧ Ok A ∧ Ok B ∧ n ≤ 1000000000000000 ∧
  ∀ (H' : Hp) (t : Addr), Same H H' → H' t = some (.tup [.int (Rc89.total g A B n), .int (Rc89.total g B A n)]) → Q (.ref t) H'
theorem scPaid : FnScope ["self", "pay", "rounds", "first", "second", "place", "deeds", "many"] ["self", "pay", "rounds"] (defScope sPaid) := ⟨rfl, rfl, rfl, by decide +kernel, rfl, by decide +kernel, by decide +kernel⟩
theorem ok_paid {f fT fO : Addr} {fd fdT fdO : FuncData} (F : Fun K "paid" "Match.paid" sPaid f fd) (T : Txt K mg CM CP CX CT) (G : Md P w K mg base CX "times" 2 ["self", "place", "rounds"] (spTimes CX) fT fdT) (GO : Md P w K mg base CP "of" 1 ["self", "own", "other"] (spOf CP) fO fdO) :
    FnOk P w K mg base CX0 3 f fd ["self", "pay", "rounds"] (spPaid CP CX) := by
  refine F.ok scPaid (fun vs H Q E h => ?_) (fun cdv Ar outer s H vs Q E hr h => ?_)
  · obtain ⟨a, pa, A, B, g, n, rfl, _⟩ := h
    rfl
  · obtain ⟨a, pa, A, B, g, n, rfl, hM, hP, oA, oB, hn, k⟩ := h
    have hr1 : Room 1 _ := hr.mono (by decide)
    refine ⟨_, pss_cons (ps_set (i := 3) scPaid.nd rfl (Or.inl rfl) pe_int)
      (pss_cons (ps_set (i := 4) scPaid.nd rfl (Or.inl rfl) pe_int)
      (pss_cons (ps_for PassesOwn.never rfl (pi_enum (by rfl) T.enum (pa_cons (pe_fld (pv 0) rfl) pa_nil)) (pg_tup (by rfl) (pgs_cons (pg_name (i := 5) scPaid.nd rfl (Or.inl rfl)) (pgs_cons (pg_name (i := 6) scPaid.nd rfl (Or.inl rfl)) pgs_nil)))
        (pss_cons (ps_set (i := 7) scPaid.nd rfl (Or.inl rfl) (pe_meth (pv 0) T.clX G.m G.ok hr G.b .nil pass0 (pa_cons (pv 5) (pa_cons (pv 2) pa_nil))))
        (pss_cons (ps_set (i := 3) scPaid.nd rfl (Or.inl rfl) (pe_op op_add (pv 3) (pe_op op_mul (pv 7) (pe_meth (pv 1) T.clP GO.m GO.ok hr1 GO.b .nil pass0 (pa_cons (pe_ix ix_tup (pv 6) pe_int (fun _ _ => rfl)) (pa_cons (pe_ix ix_tup (pv 6) pe_int (fun _ _ => rfl)) pa_nil))))))
        (pss_one (ps_set (i := 4) scPaid.nd rfl (Or.inl rfl) (pe_op op_add (pv 4) (pe_op op_mul (pv 7) (pe_meth (pv 1) T.clP GO.m GO.ok hr1 GO.b .nil pass0 (pa_cons (pe_ix ix_tup (pv 6) pe_int (fun _ _ => rfl)) (pa_cons (pe_ix ix_tup (pv 6) pe_int (fun _ _ => rfl)) pa_nil))))))))))
      (pss_one (ps_ret (pe_tup (pa_cons (pv 3) (pa_cons (pv 4) pa_nil))))))), ?_⟩
    have hM' := hM
    obtain ⟨dx, lm, ms, h1, h2, h3, h4⟩ := hM
    have hlen : ms.length = again A B := by
      have := congrArg List.length h4
      rw [List.length_map, acts_len] at this
      exact this
    have hrl : (refsP ms).length = again A B := by unfold refsP; rw [List.length_map, hlen]
    refine ⟨_, rfl, a, CX, dx, _, _, rfl, h1, T.clX, T.nMv, f2_fst, lm, _, rfl, SqL.of h2, ?_⟩
    refine for_it (walk_enum (xs := refsP ms)) (fun i σ H' => ∃ v5 v6 v7 : Option V, σ = [some (.ref a), some (.ref pa), some (.int (n : Int)), some (.int (acc (pays g A B) (since A B) (Rc89.turn A B) n i)), some (.int (acc (pays g B A) (since A B) (Rc89.turn A B) n i)), v5, v6, v7] ∧ Same H H')
      ⟨none, none, none, rfl, Same.refl H⟩ (fun i σ H' _ ⟨_, _, _, _, s1⟩ => SqL.of (s1 _ _ h2)) ?_ ?_
    · rintro i z σ H1 H2 hi ⟨v5, v6, v7, rfl, s1⟩ ⟨tn, x, y, rfl, htn, rfl, ex, ey⟩
      have ex := Option.some.inj ex
      subst ex
      obtain ⟨⟨td, u, v⟩, hm, rfl⟩ : ∃ p, ms[i]? = some p ∧ y = V.ref p.1 := by
        have ey : (refsP ms)[i]? = some y := ey
        unfold refsP at ey
        rw [List.getElem?_map] at ey
        obtain ⟨p, q1, q2⟩ := Option.map_eq_some_iff.mp ey
        exact ⟨p, q1, q2.symm⟩
      have hac : (acts A B (again A B))[i]? = some (u, v) := by rw [← h4, List.getElem?_map, hm]; rfl
      obtain ⟨e1, e2⟩ := pays_at (g := g) hac
      have s2 : Same H (upd H1 tn (.tup [.int (i : Nat), .ref td])) := same_into s1 (s1.free htn)
      have htd : H td = some (.tup [.int (u : Nat), .int (v : Nat)]) := h3 (td, u, v) (List.mem_of_getElem? hm)
      have hu : u ≤ 1 ∧ v ≤ 1 := by
        have := List.mem_of_getElem? hac
        unfold acts at this
        rw [List.mem_map] at this
        obtain ⟨st, _, q⟩ := this
        injection q with q1 q2
        rw [← q1, ← q2]
        exact ⟨oA.act_le _, oB.act_le _⟩
      obtain ⟨dp, tp, t0, t1, p1, p2, p3, p4⟩ := hP.same s2
      have bd := tms_le (since A B) (Rc89.turn A B) n i
      refine ⟨tn, _, rfl, SqT.of upd_same, rfl, _, _, rfl, _, _, rfl, rfl, ?_⟩
      refine ⟨_, rfl, a, dx, _, rfl, s2 _ _ h1, f2_no (by decide +kernel) (by decide +kernel), _, rfl, _, rfl, a, A, B, i, n, rfl, hM'.same s2, oA, oB, ?_⟩
      refine ⟨_, rfl, _, rfl, _, rfl, pa, dp, _, rfl, p1, f1_no (by decide +kernel), _, rfl, td, _, 0, _, rfl, rfl, SqT.of (s2 _ _ htd), atI_nat (j := 0) rfl, _, rfl, td, _, 1, _, rfl, rfl, SqT.of (s2 _ _ htd), atI_nat (j := 1) rfl,
        pa, g, u, v, rfl, hP.same s2, hu.1, hu.2, _, _, rfl, rfl, .inl ⟨by omega, by omega⟩, _, _, rfl, rfl, ?_⟩
      refine ⟨_, rfl, _, rfl, _, rfl, pa, dp, _, rfl, p1, f1_no (by decide +kernel), _, rfl, td, _, 1, _, rfl, rfl, SqT.of (s2 _ _ htd), atI_nat (j := 1) rfl, _, rfl, td, _, 0, _, rfl, rfl, SqT.of (s2 _ _ htd), atI_nat (j := 0) rfl,
        pa, g, v, u, rfl, hP.same s2, hu.2, hu.1, _, _, rfl, rfl, .inl ⟨by omega, by omega⟩, _, _, rfl, rfl, ?_⟩
      refine ⟨some (.int (i : Nat)), some (.ref td), some (.int (tms (since A B) (Rc89.turn A B) n i : Nat)), ?_, s2⟩
      rw [acc, acc, e1, e2]
      rfl
    · rintro σ H' ⟨v5, v6, v7, rfl, s1⟩
      rw [hrl]
      refine ⟨_, rfl, _, rfl, (by show 2 ≤ sizeLine; decide), fun t ht => k _ t (same_into s1 (s1.free ht)) ?_⟩
      rw [upd_same, total_is oA oB, total_sw oA oB]
end
end Gt
/-! ## GtD8 -/
namespace Gt
open PySem PySem.Spec PyProof.Rows L2
open Rc89 (act next again since path)
/-! ### arcs by their tuples -/
abbrev TL := List (Addr × (Nat × Int × Nat))
def refsT (ws : TL) : List V := ws.map fun p => V.ref p.1
def ArcsIn (H : Hp) (ws : TL) : Prop := ∀ p ∈ ws, H p.1 = some (.tup [.int (p.2.1 : Nat), .int p.2.2.1, .int (p.2.2.2 : Nat)])
theorem ArcsIn.keep {H H' : Hp} {ws : TL} (t : Tups H H') (h : ArcsIn H ws) : ArcsIn H' ws := fun p hp => t _ _ (h p hp)
theorem same_tups {H H' : Hp} (s : Same H H') : Tups H H' := fun b xs e => s _ _ e
/-- what stands at d in the heap is a dict of the function F -/
structure DictIs (kvs : List (Key × V)) (F : Nat → Option Int) : Prop where
  val : ∀ v : Nat, valV kvs (.inl (v : Int)) = (F v).map V.int
  key : ∀ k ∈ kvs.map (·.1), ∃ v : Nat, k = .inl (v : Int)
theorem DictIs.nil : DictIs [] (fun _ => none) := ⟨fun v => rfl, fun k h => by simp at h⟩
theorem DictIs.put {kvs : List (Key × V)} {F : Nat → Option Int} (h : DictIs kvs F) (b : Nat) (z : Int) : DictIs (putK kvs (.inl (b : Int)) (.int z)) (put F b z) := by
  refine ⟨fun v => ?_, fun k hk => ?_⟩
  · rw [valV_put]
    unfold Gt.put
    by_cases e : v = b
    · rw [if_pos (by rw [e]), if_pos e]; rfl
    · rw [if_neg (fun q => e (by have := Sum.inl.inj q; omega)), if_neg e]
      exact h.val v
  · unfold putK at hk
    split at hk
    · rw [List.map_map, List.mem_map] at hk
      obtain ⟨p, hp, rfl⟩ := hk
      have e : (if p.1 = (Sum.inl (b : Int) : Key) then (p.1, V.int z) else p).1 = p.1 := by split <;> rfl
      show ∃ v : Nat, (if p.1 = (Sum.inl (b : Int) : Key) then (p.1, V.int z) else p).1 = _
      rw [e]
      exact h.key p.1 (List.mem_map.mpr ⟨p, hp, rfl⟩)
    · rw [List.map_append, List.mem_append] at hk
      rcases hk with hk | hk
      · exact h.key k hk
      · rw [List.map_singleton, List.mem_singleton] at hk
        exact ⟨b, hk⟩
theorem DictIs.get {H : Hp} {d : Addr} {kvs : List (Key × V)} {F : Nat → Option Int} (h : DictIs kvs F) (r : Rd H d (.dK kvs)) (v : Nat) : DGet H d (.int (v : Int)) ((F v).map V.int) := by
  rw [← h.val v]
  exact .inl ⟨kvs, .inl (v : Int), r, rfl, rfl⟩
section
variable {P : Program} {w : World} {K : PySem.W.Frag} {mg : Str → Option Value} {base : Heap} {CM CP CX CT : Addr}
/-! ### arcs_of -/
def spArcs (CM CP : Addr) : Sp := fun vs H Q _ => ∃ (a pa : Addr) (A : Rc89.Machine) (g : Rc89.Pay), vs = [.ref a, .ref pa] ∧ MachAt CM H a A ∧ PayAt CP H pa g ∧ Ok A ∧
  ∀ (H' : Hp) (p : Addr) (ks : List Nat) (ts : TL), Same H H' → H' p = some (.lst (refsT ts)) → ArcsIn H' ts → Rch A ks → ts.map (·.2) = arcsOf g A ks → Q (.ref p) H'
theorem scArcs : FnScope ["machine", "pay", "found", "state", "deed"] ["machine", "pay"] (defScope sArcs) := ⟨rfl, rfl, rfl, by decide +kernel, rfl, by decide +kernel, by decide +kernel⟩
def arc (g : Rc89.Pay) (A : Rc89.Machine) (s d : Nat) : Nat × Int × Nat := (s, Rc89.pay g d (act A s), next A s d)
theorem arcs_more {g : Rc89.Pay} {A : Rc89.Machine} {ks : List Nat} {i s : Nat} (h : ks[i]? = some s) : arcsOf g A (ks.take (i + 1)) = arcsOf g A (ks.take i) ++ [arc g A s 0, arc g A s 1] := by
  unfold arcsOf
  rw [take_more h, List.flatMap_append]
  rfl
theorem arcs_len (g : Rc89.Pay) (A : Rc89.Machine) : ∀ ks : List Nat, (arcsOf g A ks).length = 2 * ks.length
  | [] => rfl
  | k :: ks => by
    have := arcs_len g A ks
    unfold arcsOf at this ⊢
    rw [List.flatMap_cons, List.length_append, this]
    show 2 + 2 * ks.length = 2 * (ks.length + 1)
    omega
theorem ok_arcs {f fR fO : Addr} {fd fdR fdO : FuncData} (F : Fun K "arcs_of" "arcs_of" sArcs f fd) (T : Txt K mg CM CP CX CT) (G : Md P w K mg base CM "reached" 1 ["self"] (spReached CM) fR fdR) (GO : Md P w K mg base CP "of" 1 ["self", "own", "other"] (spOf CP) fO fdO) :
    FnOk P w K mg base CX0 2 f fd ["machine", "pay"] (spArcs CM CP) := by
  refine F.ok scArcs (fun vs H Q E h => ?_) (fun cdv Ar outer s H vs Q E hr h => ?_)
  · obtain ⟨a, pa, A, g, rfl, _⟩ := h
    rfl
  · obtain ⟨a, pa, A, g, rfl, hM, hP, o, k⟩ := h
    refine ⟨_, pss_cons (ps_set (i := 2) scArcs.nd rfl (Or.inl rfl) (pe_lst pa_nil))
      (pss_cons (ps_for PassesOwn.never rfl (pi_list (pe_meth0 (pv 0) T.clM G.m G.ok hr G.b .nil pass0)) (pg_name (i := 3) scArcs.nd rfl (Or.inl rfl))
        (pss_one (ps_for PassesOwn.never rfl (pi_tup (pe_tup (pa_cons pe_int (pa_cons pe_int pa_nil)))) (pg_name (i := 4) scArcs.nd rfl (Or.inl rfl))
          (pss_one (ps_expr (pe_bm PySem.F.plainAttrs_list PySem.F.slot_list_append PySem.F.type_list_append mt_append (pv 2)
            (pa_cons (pe_tup (pa_cons (pv 3) (pa_cons (pe_meth (pv 1) T.clP GO.m GO.ok hr GO.b .nil pass0 (pa_cons (pv 4) (pa_cons (pe_ix ix_list (pe_fld (pv 0) rfl) (pv 3) (fun _ _ => rfl)) pa_nil)))
              (pa_cons (pe_ix ix_tup (pe_ix ix_list (pe_fld (pv 0) rfl) (pv 3) (fun _ _ => rfl)) (pv 4) (fun _ _ => rfl)) pa_nil)))) pa_nil)))))))
      (pss_one (ps_ret (pv 2)))), ?_⟩
    refine ⟨Nat.zero_le _, fun p hp => ?_⟩
    have s0 : Same H (upd H p (.lst [])) := same_upd hp
    obtain ⟨da, ld, ln, tt, h1, h2, h3, h4, h5⟩ := hM.same s0
    refine ⟨_, rfl, a, da, _, rfl, h1, f2_no (by decide +kernel) (by decide +kernel), a, A, rfl, hM.same s0, o, fun H1 q ks s1 hq hq1 rc => ?_⟩
    have npq : p ≠ q := fun e => by rw [← e, upd_same] at hq; cases hq
    have hp1 : H1 p = some (.lst []) := s1 _ _ upd_same
    have s01 := s0.trans s1
    have kl := rc.len_le o
    have om := o.most
    refine ⟨q, rfl, ⟨_, SqL.of hq1⟩, for_list (K := K) (a := q) (xs := lN ks) (fun i σ H' => ∃ (v3 v4 : Option V) (ts : TL), σ = [some (.ref a), some (.ref pa), some (.ref p), v3, v4] ∧ Same H H' ∧ H' q = some (.lst (lN ks)) ∧ H' p = some (.lst (refsT ts)) ∧ ArcsIn H' ts ∧ ts.map (·.2) = arcsOf g A (ks.take i))
      ⟨none, none, [], rfl, s01, hq1, hp1, fun x hx => by simp at hx, rfl⟩ (fun i σ H' _ ⟨_, _, _, _, _, hq2, _⟩ => SqL.of hq2) ?_ ?_⟩
    · rintro i z σ H' hz ⟨v3, v4, ts, rfl, s2, hq2, hp2, ha2, em⟩
      obtain ⟨x, hx, rfl⟩ := lN_get hz
      have hxl : x < A.length := ((rc.mem x).mp (List.mem_of_getElem? hx)).lt o
      have hil : i < ks.length := (List.getElem?_eq_some_iff.mp hx).1
      refine ⟨(by show 2 ≤ sizeLine; decide), fun tc htc => ⟨tc, rfl, ⟨_, SqT.of upd_same⟩, for_tup (K := K) (a := tc) (xs := [V.int 0, V.int 1]) (fun j σ H' => ∃ (v4 : Option V) (ts : TL), σ = [some (.ref a), some (.ref pa), some (.ref p), some (.int (x : Int)), v4] ∧ Same H H' ∧ H' q = some (.lst (lN ks)) ∧ H' tc = some (.tup [V.int 0, V.int 1]) ∧ H' p = some (.lst (refsT ts)) ∧ ArcsIn H' ts ∧
          ts.map (·.2) = arcsOf g A (ks.take i) ++ ([0, 1].take j).map (arc g A x))
        ⟨v4, ts, rfl, same_into s2 (s2.free htc), by rw [upd_ne (ne_of_none hq2 htc)]; exact hq2, upd_same, by rw [upd_ne (ne_of_none hp2 htc)]; exact hp2, ha2.keep (tups_new htc), by rw [em]; simp⟩ (fun i σ H' _ ⟨_, _, _, _, _, htc2, _⟩ => SqT.of htc2) ?_ ?_⟩⟩
      · rintro j y σ H3 hy ⟨v4, ts, rfl, s3, hq3, htc3, hp3, ha3, em3⟩
        obtain ⟨d, hd, rfl⟩ : ∃ d : Nat, ([0, 1] : List Nat)[j]? = some d ∧ y = V.int (d : Int) := lN_get (l := [0, 1]) hy
        have d2 : d ≤ 1 := by
          have := List.mem_of_getElem? hd
          simp at this
          omega
        have jl : j < 2 := (List.getElem?_eq_some_iff.mp hd).1
        obtain ⟨db, ld', ln', tt', g1, g2, g3, g4, g5⟩ := hM.same s3
        obtain ⟨dp, tp, t0, t1, p1, p2, p3, p4⟩ := hP.same s3
        obtain ⟨tx, htx⟩ : ∃ t, tt'[x]? = some t := ⟨_, List.getElem?_eq_getElem (by omega)⟩
        have at0 : atI [V.int (next A x 0 : Nat), V.int (next A x 1 : Nat)] (d : Int) = some (.int (next A x d : Nat)) := by
          refine atI_nat ?_
          match d, d2 with
          | 0, _ => rfl
          | 1, _ => rfl
        have tl : ts.length ≤ 100 := by
          have := congrArg List.length em3
          rw [List.length_map, List.length_append, arcs_len, List.length_map, List.length_take, List.length_take] at this
          have : ([0, 1] : List Nat).length = 2 := rfl
          omega
        refine ⟨_, rfl, .inl ⟨rfl, _, SqL.of hp3⟩, _, rfl, _, rfl, pa, dp, _, rfl, p1, f1_no (by decide +kernel), _, rfl, _, rfl, a, CM, db, _, _, rfl, g1, T.clM, T.nD, f2_fst, _, rfl, ld', _, _, _, rfl, rfl, SqL.of g2, atI_nat (deed_at hxl),
          pa, g, d, act A x, rfl, hP.same s3, d2, o.act_le x, _, rfl, a, CM, db, _, _, rfl, g1, T.clM, T.nN, f2_snd (by decide +kernel), _, rfl, ln', _, _, _, rfl, rfl, SqL.of g3, atI_nat (refs_at' htx), _, rfl, tx, _, _, _, rfl, rfl, SqT.of (g5 x tx htx), at0,
          (by show 3 ≤ sizeLine; decide), fun tn htn => ?_⟩
        refine ⟨p, _, _, rfl, rfl, by rw [upd_ne (ne_of_none hp3 htn)]; exact hp3, by unfold refsT; rw [List.length_map]; exact size_lt (by omega), ?_⟩
        refine ⟨_, ts ++ [(tn, arc g A x d)], rfl, same_into (same_into s3 (s3.free htn)) hp, ?_, ?_, ?_, ?_, ?_⟩
        · rw [upd_ne (fun e => npq e.symm), upd_ne (ne_of_none hq3 htn)]; exact hq3
        · rw [upd_ne (ne_of htc3 hp3 (by intro z; cases z)), upd_ne (ne_of_none htc3 htn)]; exact htc3
        · rw [upd_same]; unfold refsT; rw [List.map_append]; rfl
        · intro r hr
          have e : upd H3 tn (.tup [.int (x : Nat), .int (Rc89.pay g d (act A x)), .int (next A x d : Nat)]) r.1 = some (.tup [.int (r.2.1 : Nat), .int r.2.2.1, .int (r.2.2.2 : Nat)]) := by
            rcases List.mem_append.mp hr with hr | hr
            · exact tups_new htn _ _ (ha3 r hr)
            · rw [List.mem_singleton] at hr
              rw [hr]
              exact upd_same
          rw [upd_ne (ne_of e (by rw [upd_ne (ne_of_none hp3 htn)]; exact hp3) (by intro z; cases z))]
          exact e
        · rw [List.map_append, em3, take_more hd, List.map_append, List.append_assoc]
          rfl
      · rintro σ H3 ⟨v4, ts, rfl, s3, hq3, htc3, hp3, ha3, em3⟩
        refine ⟨_, _, ts, rfl, s3, hq3, hp3, ha3, ?_⟩
        rw [em3, arcs_more hx]
        rfl
    · rintro σ H' ⟨v3, v4, ts, rfl, s2, hq2, hp2, ha2, em⟩
      refine ⟨_, rfl, k H' p ks ts s2 hp2 ha2 rc ?_⟩
      rw [em, List.take_of_length_le]
      unfold lN
      rw [List.length_map]
      exact Nat.le_refl _
end
end Gt
/-! ## GtD9 -/
namespace Gt
open PySem PySem.Spec PyProof.Rows L2
open Rc89 (act next again since path)
section
variable {P : Program} {w : World} {K : PySem.W.Frag} {mg : Str → Option Value} {base : Heap} {CM CP CX CT : Addr}
/-! ### most_behind -/
def spMost : Sp := fun vs H Q _ => ∃ (la db : Addr) (ts : TL) (kvs : List (Key × V)) (D : Nat → Option Int), vs = [.ref la, .ref db] ∧ H la = some (.lst (refsT ts)) ∧ ArcsIn H ts ∧ ts.length ≤ 1000 ∧ H db = some (.dK kvs) ∧ DictIs kvs D ∧
  ∀ (H' : Hp) (p : Addr) (kvs' : List (Key × V)) (F : Nat → Option Int), Same H H' → H p = none → H' p = some (.dK kvs') → DictIs kvs' F → Bh D (ts.map (·.2)) F → Q (.ref p) H'
theorem scMost : FnScope ["arcs", "before", "found", "state", "amount", "behind", "total"] ["arcs", "before"] (defScope sMost) := ⟨rfl, rfl, rfl, by decide +kernel, rfl, by decide +kernel, by decide +kernel⟩
theorem ok_most {f : Addr} {fd : FuncData} (F : Fun K "most_behind" "most_behind" sMost f fd) : FnOk P w K mg base CX0 1 f fd ["arcs", "before"] spMost := by
  refine F.ok scMost (fun vs H Q E h => ?_) (fun cdv Ar outer s H vs Q E hr h => ?_)
  · obtain ⟨la, db, ts, kvs, D, rfl, _⟩ := h
    rfl
  · obtain ⟨la, db, ts, kvs, D, rfl, hl, ha, tl, hd, dD, k⟩ := h
    have hu := hu_of hr
    refine ⟨_, pss_cons (ps_set (i := 2) scMost.nd rfl (Or.inl rfl) pe_dnewK)
      (pss_cons (ps_for PassesOwn.never rfl (pi_list (pv 0)) (pg_tup (by rfl) (pgs_cons (pg_name (i := 3) scMost.nd rfl (Or.inl rfl)) (pgs_cons (pg_name (i := 4) scMost.nd rfl (Or.inl rfl)) (pgs_cons (pg_name (i := 5) scMost.nd rfl (Or.inl rfl)) pgs_nil))))
        (pss_one (ps_if (pt_cmp (pc_din hu (pv 3) (pv 1)))
          (pss_cons (ps_set (i := 6) scMost.nd rfl (Or.inl rfl) (pe_op op_add (pe_dget hu (pv 1) (pv 3) (fun _ _ => rfl)) (pv 4)))
          (pss_one (ps_if (PW.pt (pw_or (pt_cmp (pc_dnotin hu (pv 5) (pv 2))) (pw_or1 (pt_cmpR op_gt (pv 6) (pe_dget hu (pv 2) (pv 5) (fun _ _ => rfl)) (nomark _)))))
            (pss_one (ps_dput hu (pv 2) (pv 5) (pv 6) rfl)) pss_nil))) pss_nil)))
      (pss_one (ps_ret (pv 2)))), ?_⟩
    refine fun p hp => ?_
    refine ⟨_, rfl, la, rfl, ⟨_, SqL.of (same_upd hp _ _ hl)⟩, for_list (K := K) (a := la) (xs := refsT ts) (fun i σ H' => ∃ (v3 v4 v5 v6 : Option V) (kvs' : List (Key × V)) (F : Nat → Option Int), σ = [some (.ref la), some (.ref db), some (.ref p), v3, v4, v5, v6] ∧ Same H H' ∧ H' p = some (.dK kvs') ∧ kvs'.length ≤ i ∧ DictIs kvs' F ∧ Bh D ((ts.map (·.2)).take i) F)
      ⟨none, none, none, none, [], fun _ => none, rfl, same_upd hp, upd_same, Nat.le_refl _, DictIs.nil, Bh.nil D fun _ => rfl⟩ (fun i σ H' _ ⟨_, _, _, _, _, _, _, s1, _⟩ => SqL.of (s1 _ _ hl)) ?_ ?_⟩
    · rintro i z σ H' hz ⟨v3, v4, v5, v6, kvs', F, rfl, s1, hp1, hl1, dF, bh⟩
      obtain ⟨⟨tn, x, am, y⟩, hm, rfl⟩ : ∃ r, ts[i]? = some r ∧ z = V.ref r.1 := by
        unfold refsT at hz
        rw [List.getElem?_map] at hz
        obtain ⟨r, q1, q2⟩ := Option.map_eq_some_iff.mp hz
        exact ⟨r, q1, q2.symm⟩
      have hil : i < ts.length := (List.getElem?_eq_some_iff.mp hm).1
      have htn : H tn = some (.tup [.int (x : Nat), .int am, .int (y : Nat)]) := ha (tn, x, am, y) (List.mem_of_getElem? hm)
      have et : (ts.map (·.2)).take (i + 1) = (ts.map (·.2)).take i ++ [(x, am, y)] := take_more (by rw [List.getElem?_map, hm]; rfl)
      refine ⟨tn, _, rfl, SqT.of (s1 _ _ htn), rfl, _, _, rfl, _, _, rfl, _, _, rfl, rfl, ?_⟩
      refine ⟨_, rfl, _, rfl, db, _, rfl, dD.get (.inl (s1 _ _ hd)) x, _, rfl, ?_⟩
      cases eD : D x with
      | none =>
        refine iteF ?_
        refine ⟨_, _, _, _, kvs', F, rfl, s1, hp1, by omega, dF, ?_⟩
        rw [et]
        exact bh.skip eD
      | some b =>
        refine iteT ?_
        have gx : DGet H' db (.int (x : Int)) (some (.int b)) := by
          have g := dD.get (.inl (s1 _ _ hd)) x
          rw [eD] at g
          exact g
        refine ⟨_, rfl, _, rfl, db, _, rfl, gx, _, rfl, _, _, rfl, rfl, ?_⟩
        have store : (∀ u, F y = some u → u < b + am) → ∃ a H4, V.ref p = .ref a ∧ DPut H' a (.int (y : Int)) (.int (b + am)) H4 ∧ ∃ (v3 v4 v5 v6 : Option V) (kvs' : List (Key × V)) (F : Nat → Option Int), [some (V.ref la), some (V.ref db), some (V.ref p), some (V.int (x : Int)), some (V.int am), some (V.int (y : Int)), some (V.int (b + am))] = [some (.ref la), some (.ref db), some (.ref p), v3, v4, v5, v6] ∧ Same H H4 ∧ H4 p = some (.dK kvs') ∧ kvs'.length ≤ i + 1 ∧ DictIs kvs' F ∧ Bh D ((ts.map (·.2)).take (i + 1)) F := by
          intro hlt
          refine ⟨p, _, rfl, DPut.k (k := .inl (y : Int)) hp1 (size_lt (by omega)), _, _, _, _, _, _, rfl, same_into s1 hp, upd_same, ?_, dF.put y (b + am), ?_⟩
          · have := length_putK kvs' (.inl (y : Int)) (V.int (b + am))
            omega
          · rw [et]
            exact bh.put eD hlt
        have gy := dF.get (.inl hp1) y
        refine ⟨_, rfl, _, rfl, p, _, rfl, gy, _, rfl, ?_⟩
        cases eF : F y with
        | none =>
          refine iteT (iteT ?_)
          exact ⟨_, rfl, _, rfl, _, rfl, store fun u hu => by rw [eF] at hu; cases hu⟩
        | some u =>
          rw [eF] at gy
          refine iteF ?_
          refine ⟨_, rfl, _, rfl, _, rfl, p, _, rfl, gy, _, _, rfl, rfl, _, rfl, ?_⟩
          refine itd (fun c => ?_) (fun c => ?_)
          · exact ⟨_, rfl, _, rfl, _, rfl, store fun u' hu => by rw [eF] at hu; have := Option.some.inj hu; omega⟩
          · refine ⟨_, _, _, _, kvs', F, rfl, s1, hp1, by omega, dF, ?_⟩
            rw [et]
            exact bh.keep eD eF (by omega)
    · rintro σ H' ⟨v3, v4, v5, v6, kvs', F, rfl, s1, hp1, hl1, dF, bh⟩
      refine ⟨_, rfl, k H' p kvs' F s1 hp hp1 dF ?_⟩
      rw [List.take_of_length_le (by unfold refsT; rw [List.length_map, List.length_map]; exact Nat.le_refl _)] at bh
      exact bh
end
end Gt
/-! ## GtD10 -/
namespace Gt
open PySem PySem.Spec PyProof.Rows L2
open Rc89 (act next again since path)
/-- parts are ordered -/
theorem rt {a1 b1 a2 b2 a3 b3 : Int} (h2 : 0 < b2) (h1 : 0 ≤ b1) (h3 : 0 ≤ b3) (p : a1 * b2 ≤ a2 * b1) (q : a2 * b3 ≤ a3 * b2) : a1 * b3 ≤ a3 * b1 := by
  apply cancel_le h2
  have e1 : a1 * b2 * b3 ≤ a2 * b1 * b3 := Int.mul_le_mul_of_nonneg_right p h3
  have e2 : a2 * b3 * b1 ≤ a3 * b2 * b1 := Int.mul_le_mul_of_nonneg_right q h1
  calc a1 * b3 * b2 = a1 * b2 * b3 := by rw [Int.mul_assoc, Int.mul_comm b3, ← Int.mul_assoc]
    _ ≤ a2 * b1 * b3 := e1
    _ = a2 * b3 * b1 := by rw [Int.mul_assoc, Int.mul_comm b1, ← Int.mul_assoc]
    _ ≤ a3 * b2 * b1 := e2
    _ = a3 * b1 * b2 := by rw [Int.mul_assoc, Int.mul_comm b2, ← Int.mul_assoc]
/-- the totals: a list of dicts -/
def TotsAt (H : Hp) (lt : Addr) (ds : List Addr) (Ds : Nat → Nat → Option Int) : Prop := H lt = some (.lst (ds.map V.ref)) ∧ ∀ (i : Nat) (d : Addr), ds[i]? = some d → ∃ kvs, Rd H d (.dK kvs) ∧ DictIs kvs (Ds i)
theorem TotsAt.same {H H' : Hp} {lt : Addr} {ds : List Addr} {Ds : Nat → Nat → Option Int} (s : Same H H') (h : TotsAt H lt ds Ds) : TotsAt H' lt ds Ds := by
  refine ⟨s _ _ h.1, fun i d e => ?_⟩
  obtain ⟨kvs, r, q⟩ := h.2 i d e
  refine ⟨kvs, ?_, q⟩
  rcases r with r | ⟨o, r⟩
  · exact .inl (s _ _ r)
  · exact .inr ⟨o, s _ _ r⟩
/-- the least of the first i -/
structure LbyI (Ds : Nat → Nat → Option Int) (n v : Nat) (x : Int) (i : Nat) (a b : Int) : Prop where
  ex : ∃ r, r < i ∧ ∃ y, Ds r v = some y ∧ a = x - y ∧ b = (n : Int) - r
  lb : ∀ r, r < i → ∀ y, Ds r v = some y → a * ((n : Int) - r) ≤ (x - y) * b
section
variable {P : Program} {w : World} {K : PySem.W.Frag} {mg : Str → Option Value} {base : Heap} {CM CP CX CT : Addr}
/-! ### least_by -/
def spLeast : Sp := fun vs H Q _ => ∃ (lt : Addr) (v n : Nat) (ds : List Addr) (Ds : Nat → Nat → Option Int) (x : Int), vs = [.ref lt, .int (v : Int)] ∧ TotsAt H lt ds Ds ∧ ds.length = n + 1 ∧ n ≤ 16 ∧ Ds n v = some x ∧ (∃ r, r < n ∧ ∃ y, Ds r v = some y) ∧
  ∀ (H' : Hp) (t : Addr) (a : Int) (b : Int), Same H H' → H' t = some (.tup [.int a, .int b]) → Lby Ds n v a b → 0 < b → b ≤ 16 → Q (.ref t) H'
theorem scLeast : FnScope ["totals", "state", "many", "best", "rounds", "found"] ["totals", "state"] (defScope sLeast) := ⟨rfl, rfl, rfl, by decide +kernel, rfl, by decide +kernel, by decide +kernel⟩
theorem ok_least {f fL : Addr} {fd fdL : FuncData} (F : Fun K "least_by" "least_by" sLeast f fd) (T : Txt K mg CM CP CX CT) (G : Df P w K mg base "is_less" 1 ["one", "other"] (spLess K) fL fdL) : FnOk P w K mg base CX0 2 f fd ["totals", "state"] spLeast := by
  refine F.ok scLeast (fun vs H Q E h => ?_) (fun cdv Ar outer s H vs Q E hr h => ?_)
  · obtain ⟨lt, v, n, ds, Ds, x, rfl, _⟩ := h
    rfl
  · obtain ⟨lt, v, n, ds, Ds, x, rfl, hT, dl, hn, ex, hex, k⟩ := h
    have hu := hu_of hr
    refine ⟨_, pss_cons (ps_set (i := 2) scLeast.nd rfl (Or.inl rfl) (pe_op op_sub (pe_callB call_len_seq (by rfl) T.len PySem.boot_len (pa_cons (pv 0) pa_nil)) pe_int))
      (pss_cons (ps_set (i := 3) scLeast.nd rfl (Or.inl rfl) pe_non)
      (pss_cons (ps_for PassesOwn.never rfl (pi_range1 (by rfl) T.range (pa_cons (pv 2) pa_nil)) (pg_name (i := 4) scLeast.nd rfl (Or.inl rfl))
        (pss_one (ps_if (pt_cmp (pc_din hu (pv 1) (pe_ix ix_list (pv 0) (pv 4) (fun _ _ => rfl))))
          (pss_cons (ps_set (i := 5) scLeast.nd rfl (Or.inl rfl) (pe_tup (pa_cons (pe_op op_sub (pe_dget hu (pe_ix ix_list (pv 0) (pv 2) (fun _ _ => rfl)) (pv 1) (fun _ _ => rfl)) (pe_dget hu (pe_ix ix_list (pv 0) (pv 4) (fun _ _ => rfl)) (pv 1) (fun _ _ => rfl))) (pa_cons (pe_op op_sub (pv 2) (pv 4)) pa_nil))))
          (pss_one (ps_if (PW.pt (pw_or (pt_cmp (pc_isN (pv 3))) (pw_or1 (pt_val (pe_call G.ok hr (by rfl) G.mg G.kp G.b .nil pass0 (pa_cons (pv 5) (pa_cons (pv 3) pa_nil)))))))
            (pss_one (ps_set (i := 3) scLeast.nd rfl (Or.inl rfl) (pv 5))) pss_nil))) pss_nil)))
      (pss_one (ps_ret (pv 3))))), ?_⟩
    obtain ⟨hlt, hds⟩ := hT
    have el : (((ds.map V.ref).length : Nat) : Int) - 1 = (n : Int) := by rw [List.length_map, dl]; omega
    refine ⟨_, rfl, lt, _, rfl, .inl (SqL.of hlt), _, _, rfl, rfl, ?_⟩
    refine ⟨_, rfl, (n : Int), congrArg (fun z => [V.int z]) el, by omega, by omega, ?_⟩
    have dAt : ∀ r, r < n + 1 → ∃ d, ds[r]? = some d := fun r hr => ⟨_, List.getElem?_eq_getElem (by omega)⟩
    obtain ⟨dn, hdn⟩ := dAt n (by omega)
    obtain ⟨kn, rn, qn⟩ := hds n dn hdn
    have rd_same : ∀ {H' : Hp} {d : Addr} {u : HO}, Same H H' → Rd H d u → Rd H' d u := by
      intro H' d u s r
      rcases r with r | ⟨o, r⟩
      · exact .inl (s _ _ r)
      · exact .inr ⟨o, s _ _ r⟩
    refine for_range (lo := 0) (n := n) (fun i σ H' => ∃ (vb v4 v5 : Option V), σ = [some (.ref lt), some (.int (v : Int)), some (.int (((ds.map V.ref).length : Nat) - 1 : Int)), vb, v4, v5] ∧ Same H H' ∧
        ((vb = some .non ∧ ∀ r, r < i → Ds r v = none) ∨ ∃ (t : Addr) (a b : Int), vb = some (.ref t) ∧ H' t = some (.tup [.int a, .int b]) ∧ LbyI Ds n v x i a b ∧ 0 < b ∧ b ≤ 16))
      ⟨_, none, none, rfl, Same.refl H, .inl ⟨rfl, fun r h => by omega⟩⟩ ?_ ?_
    · rintro i σ H' hi ⟨vb, v4, v5, rfl, s1, hb⟩
      obtain ⟨di, hdi⟩ := dAt i (by omega)
      obtain ⟨ki, ri, qi⟩ := hds i di hdi
      have ez : (0 : Int) + (i : Nat) = (i : Int) := by omega
      have gi := qi.get (rd_same s1 ri) v
      refine ⟨_, rfl, _, rfl, _, rfl, lt, _, _, _, rfl, rfl, SqL.of (s1 _ _ hlt), at_of (j := i) ez (refs_at' hdi), di, _, rfl, gi, _, rfl, ?_⟩
      cases ei : Ds i v with
      | none =>
        refine iteF ?_
        refine ⟨vb, _, _, rfl, s1, ?_⟩
        rcases hb with ⟨rfl, h1⟩ | ⟨t, a, b, rfl, h1, h2, h3, h4⟩
        · refine .inl ⟨rfl, fun r hr => ?_⟩
          by_cases e : r = i
          · rw [e]; exact ei
          · exact h1 r (by omega)
        · refine .inr ⟨t, a, b, rfl, h1, ⟨?_, fun r hr y ey => ?_⟩, h3, h4⟩
          · obtain ⟨r, q1, q2⟩ := h2.ex
            exact ⟨r, by omega, q2⟩
          · by_cases e : r = i
            · rw [e, ei] at ey; cases ey
            · exact h2.lb r (by omega) y ey
      | some y =>
        refine iteT ?_
        rw [ei] at gi
        have gn : DGet H' dn (.int (v : Int)) (some (.int x)) := by
          have g := qn.get (rd_same s1 rn) v
          rw [ex] at g
          exact g
        refine ⟨_, rfl, _, rfl, lt, _, _, _, rfl, rfl, SqL.of (s1 _ _ hlt), at_of (j := n) el (refs_at' hdn), _, rfl, dn, _, rfl, gn, _, rfl, _, rfl, lt, _, _, _, rfl, rfl, SqL.of (s1 _ _ hlt), at_of (j := i) ez (refs_at' hdi), _, rfl, di, _, rfl, gi, _, _, rfl, rfl,
          _, rfl, _, rfl, (n : Int), (i : Int), congrArg V.int el, congrArg V.int ez, (by show 2 ≤ sizeLine; decide), fun tf htf => ?_⟩
        generalize hH2 : upd H' tf (.tup [.int (x - y), .int ((n : Int) - i)]) = H2
        have s2 : Same H H2 := by rw [← hH2]; exact same_into s1 (s1.free htf)
        have s12 : Same H' H2 := by rw [← hH2]; exact same_upd htf
        have htf2 : H2 tf = some (.tup [.int (x - y), .int ((n : Int) - i)]) := by rw [← hH2]; exact upd_same
        rcases hb with ⟨rfl, h1⟩ | ⟨t, a, b, rfl, h1, h2, h3, h4⟩
        · refine ⟨_, rfl, _, rfl, ?_⟩
          refine iteT (iteT ?_)
          refine ⟨_, rfl, _, _, _, rfl, s2, .inr ⟨tf, _, _, rfl, htf2, ⟨⟨i, by omega, y, ei, rfl, rfl⟩, fun r hr y' ey => ?_⟩, by omega, by omega⟩⟩
          by_cases e : r = i
          · subst e
            rw [ei] at ey
            have := Option.some.inj ey
            rw [this]
            exact Int.le_refl _
          · rw [h1 r (by omega)] at ey
            cases ey
        · refine ⟨_, rfl, _, rfl, ?_⟩
          refine iteF ?_
          refine ⟨_, rfl, _, rfl, tf, t, _, _, _, _, rfl, SqT.of htf2, SqT.of (s12 _ _ h1), by omega, by omega, by omega, by omega, _, rfl, ?_⟩
          refine itd (fun c => ?_) (fun c => ?_)
          · refine ⟨_, rfl, _, _, _, rfl, s2, .inr ⟨tf, _, _, rfl, htf2, ⟨⟨i, by omega, y, ei, rfl, rfl⟩, fun r hr y' ey => ?_⟩, by omega, by omega⟩⟩
            by_cases e : r = i
            · subst e
              rw [ei] at ey
              have := Option.some.inj ey
              rw [this]
              exact Int.le_refl _
            · exact rt (a2 := a) (b2 := b) h3 (by omega) (by omega) (Int.le_of_lt c) (h2.lb r (by omega) y' ey)
          · refine ⟨_, _, _, rfl, s2, .inr ⟨t, a, b, rfl, s12 _ _ h1, ⟨?_, fun r hr y' ey => ?_⟩, h3, h4⟩⟩
            · obtain ⟨r, q1, q2⟩ := h2.ex
              exact ⟨r, by omega, q2⟩
            · by_cases e : r = i
              · subst e
                rw [ei] at ey
                have := Option.some.inj ey
                rw [← this]
                omega
              · exact h2.lb r (by omega) y' ey
    · rintro σ H' ⟨vb, v4, v5, rfl, s1, hb⟩
      rcases hb with ⟨rfl, h1⟩ | ⟨t, a, b, rfl, h1, h2, h3, h4⟩
      · obtain ⟨r, hr, y, ey⟩ := hex
        rw [h1 r hr] at ey
        cases ey
      · refine ⟨_, rfl, k H' t a b s1 h1 ⟨?_, fun r hr x' y' ex' ey' => ?_⟩ h3 h4⟩
        · obtain ⟨r, q1, y, q2, q3, q4⟩ := h2.ex
          exact ⟨r, q1, x, y, ex, q2, q3, q4⟩
        · rw [ex] at ex'
          have := Option.some.inj ex'
          rw [← this]
          exact h2.lb r hr y' ey'
end
end Gt
/-! ## GtD11 -/
namespace Gt
open PySem PySem.Spec PyProof.Rows L2
open Rc89 (act next again since path)
def TotsW (H : Hp) (lt : Addr) (ds : List Addr) (Ds : Nat → Nat → Option Int) : Prop := H lt = some (.lst (ds.map V.ref)) ∧ ∀ (i : Nat) (d : Addr), ds[i]? = some d → ∃ kvs, H d = some (.dK kvs) ∧ DictIs kvs (Ds i)
theorem TotsW.same {H H' : Hp} {lt : Addr} {ds : List Addr} {Ds : Nat → Nat → Option Int} (s : Same H H') (h : TotsW H lt ds Ds) : TotsW H' lt ds Ds := by
  refine ⟨s _ _ h.1, fun i d e => ?_⟩
  obtain ⟨kvs, r, q⟩ := h.2 i d e
  exact ⟨kvs, s _ _ r, q⟩
theorem TotsW.more {H H3 : Hp} {lt pn : Addr} {ds : List Addr} {Ds : Nat → Nat → Option Int} {kvs : List (Key × V)} {F : Nat → Option Int} (s : Same H H3) (h : TotsW H lt ds Ds) (hp : H3 pn = some (.dK kvs)) (dF : DictIs kvs F) :
    TotsW (upd H3 lt (.lst (ds.map V.ref ++ [V.ref pn]))) lt (ds ++ [pn]) (fun j => if j = ds.length then F else Ds j) := by
  have hl := s _ _ h.1
  refine ⟨by rw [upd_same, List.map_append]; rfl, fun i d e => ?_⟩
  by_cases c : i < ds.length
  · rw [List.getElem?_append_left c] at e
    obtain ⟨k, r, q⟩ := h.2 i d e
    have r3 := s _ _ r
    refine ⟨k, by rw [upd_ne (ne_of r3 hl (by intro z; cases z))]; exact r3, ?_⟩
    show DictIs k (if i = ds.length then F else Ds i)
    rw [if_neg (by omega)]
    exact q
  · have hi : i = ds.length := by
      have := (List.getElem?_eq_some_iff.mp e).1
      rw [List.length_append] at this
      have : ([pn] : List Addr).length = 1 := rfl
      omega
    subst hi
    rw [List.getElem?_append_right (Nat.le_refl _), Nat.sub_self] at e
    have e : pn = d := Option.some.inj e
    subst e
    refine ⟨kvs, by rw [upd_ne (ne_of hp hl (by intro z; cases z))]; exact hp, ?_⟩
    show DictIs kvs (if ds.length = ds.length then F else Ds ds.length)
    rw [if_pos rfl]
    exact dF
section
variable {P : Program} {w : World} {K : PySem.W.Frag} {mg : Str → Option Value} {base : Heap} {CM CP CX CT : Addr}
/-! ### best_of -/
def spBest (CM CP : Addr) : Sp := fun vs H Q _ => ∃ (a pa : Addr) (A : Rc89.Machine) (g : Rc89.Pay), vs = [.ref a, .ref pa] ∧ MachAt CM H a A ∧ PayAt CP H pa g ∧ Ok A ∧
  ∀ (H' : Hp) (t : Addr), Same H H' → H' t = some (.tup [.int (Rc89.best g A).1, .int ((Rc89.best g A).2 : Nat)]) → Q (.ref t) H'
theorem scBest : FnScope ["machine", "pay", "arcs", "totals", "turn", "best", "state", "found", "part"] ["machine", "pay"] (defScope sBest) := ⟨rfl, rfl, rfl, by decide +kernel, rfl, by decide +kernel, by decide +kernel⟩
theorem ok_best {f fA fR fM fL fI fC : Addr} {fd fdA fdR fdM fdL fdI fdC : FuncData} (F : Fun K "best_of" "best_of" sBest f fd) (T : Txt K mg CM CP CX CT)
    (GA : Df P w K mg base "arcs_of" 2 ["machine", "pay"] (spArcs CM CP) fA fdA) (GR : Md P w K mg base CM "reached" 1 ["self"] (spReached CM) fR fdR) (GM : Df P w K mg base "most_behind" 1 ["arcs", "before"] spMost fM fdM)
    (GL : Df P w K mg base "least_by" 2 ["totals", "state"] spLeast fL fdL) (GI : Df P w K mg base "is_less" 1 ["one", "other"] (spLess K) fI fdI) (GC : Df P w K mg base "common" 1 ["one", "other"] spCommon fC fdC) :
    FnOk P w K mg base CX0 3 f fd ["machine", "pay"] (spBest CM CP) := by
  refine F.ok scBest (fun vs H Q E h => ?_) (fun cdv Ar outer s H vs Q E hr h => ?_)
  · obtain ⟨a, pa, A, g, rfl, _⟩ := h
    rfl
  · obtain ⟨a, pa, A, g, rfl, hM, hP, o, k⟩ := h
    have hr1 : Room 1 _ := hr.mono (by decide)
    refine ⟨_, pss_cons (ps_set (i := 2) scBest.nd rfl (Or.inl rfl) (pe_call GA.ok hr (by rfl) GA.mg GA.kp GA.b .nil pass0 (pa_cons (pv 0) (pa_cons (pv 1) pa_nil))))
      (pss_cons (ps_set (i := 3) scBest.nd rfl (Or.inl rfl) (pe_lst (pa_cons (pe_disp (pps_cons pe_int pe_int pps_nil) (by rfl) (by rfl) (fun z => by cases z) (by decide)) pa_nil)))
      (pss_cons (ps_for PassesOwn.never rfl (pi_list (pe_meth0 (pv 0) T.clM GR.m GR.ok hr1 GR.b .nil pass0)) (pg_name (i := 4) scBest.nd rfl (Or.inl rfl))
        (pss_one (ps_expr (pe_bm PySem.F.plainAttrs_list PySem.F.slot_list_append PySem.F.type_list_append mt_append (pv 3) (pa_cons (pe_call GM.ok hr1 (by rfl) GM.mg GM.kp GM.b .nil pass0 (pa_cons (pv 2) (pa_cons (pe_ix ix_list (pv 3) (pe_un un_neg pe_int) (fun _ _ => rfl)) pa_nil))) pa_nil)))))
      (pss_cons (ps_set (i := 5) scBest.nd rfl (Or.inl rfl) pe_non)
      (pss_cons (ps_lock (ps_for PassesOwn.never rfl (pi_keys (pe_ix ix_list (pv 3) (pe_un un_neg pe_int) (fun _ _ => rfl))) (pg_name (i := 6) scBest.nd rfl (Or.inl rfl))
        (pss_cons (ps_set (i := 7) scBest.nd rfl (Or.inl rfl) (pe_call GL.ok hr (by rfl) GL.mg GL.kp GL.b .nil pass0 (pa_cons (pv 3) (pa_cons (pv 6) pa_nil))))
        (pss_one (ps_if (PW.pt (pw_and (pt_cmp (pc_notN (pv 7))) (pw_and1 (PW.pt (pw_or (pt_cmp (pc_isN (pv 5))) (pw_or1 (pt_val (pe_call GI.ok hr1 (by rfl) GI.mg GI.kp GI.b .nil pass0 (pa_cons (pv 5) (pa_cons (pv 7) pa_nil))))))))))
          (pss_one (ps_set (i := 5) scBest.nd rfl (Or.inl rfl) (pv 7))) pss_nil)))))
      (pss_cons (ps_set (i := 8) scBest.nd rfl (Or.inl rfl) (pe_call GC.ok hr1 (by rfl) GC.mg GC.kp GC.b .nil pass0 (pa_cons (pe_ix ix_tup (pv 5) pe_int (fun _ _ => rfl)) (pa_cons (pe_callB call_abs (by rfl) T.abs (by decide +kernel) (pa_cons (pe_ix ix_tup (pv 5) pe_int (fun _ _ => rfl)) pa_nil)) pa_nil))))
      (pss_one (ps_ret (pe_tup (pa_cons (pe_op op_fdiv (pe_ix ix_tup (pv 5) pe_int (fun _ _ => rfl)) (pv 8)) (pa_cons (pe_op op_fdiv (pe_ix ix_tup (pv 5) pe_int (fun _ _ => rfl)) (pv 8)) pa_nil)))))))))), ?_⟩
    have om := o.most
    refine ⟨_, rfl, _, rfl, a, pa, A, g, rfl, hM, hP, o, fun H1 p1 ks ts s1 hl1 ha1 rc em => ?_⟩
    -- totals = [{0: 0}]
    refine fun d hd => ⟨upd_same, [(.inl 0, .int 0)], rfl, by decide, (by show 1 ≤ sizeLine; decide), fun lt hlt => ?_⟩
    rw [upd_upd] at hlt ⊢
    have hlt1 : H1 lt = none := (same_upd hd).free hlt
    generalize hH2 : upd (upd H1 d (.dK (mergeK [] [(.inl 0, .int 0)]))) lt (.lst [V.ref d]) = H2
    have ndl : d ≠ lt := fun e => by rw [← e, upd_same] at hlt; cases hlt
    have s2 : Same H1 H2 := by rw [← hH2]; exact same_into (same_into (Same.refl H1) hd) hlt1
    have tw0 : TotsW H2 lt [d] (fun _ => put (fun _ => none) 0 0) := by
      refine ⟨by rw [← hH2]; exact upd_same, fun i e he => ?_⟩
      match i, he with
      | 0, he =>
        have he : d = e := Option.some.inj he
        subst he
        exact ⟨_, by rw [← hH2, upd_ne ndl]; exact upd_same, DictIs.nil.put 0 0⟩
      | i + 1, he => simp at he
    -- for turn in machine.reached()
    have s02 : Same H H2 := s1.trans s2
    obtain ⟨da, ld, ln, tt, h1, h2, h3, h4, h5⟩ := hM.same s02
    refine ⟨_, rfl, a, da, _, rfl, h1, f2_no (by decide +kernel) (by decide +kernel), a, A, rfl, hM.same s02, o, fun H3 q ks2 s3 hq hq3 rc2 => ?_⟩
    have hq1 : H1 q = none := s2.free hq
    have nlq : lt ≠ q := ne_of_none tw0.1 hq
    have kl := rc2.len_le o
    have kl1 := rc.len_le o
    have tlen : ts.length ≤ 1000 := by
      have := congrArg List.length em
      rw [List.length_map, arcs_len] at this
      omega
    refine ⟨q, rfl, ⟨_, SqL.of hq3⟩, for_list (K := K) (a := q) (xs := lN ks2) (fun i σ H' => ∃ (v4 : Option V) (dr : List Addr) (dl : Addr) (Ds : Nat → Nat → Option Int), σ = [some (.ref a), some (.ref pa), some (.ref p1), some (.ref lt), v4, none, none, none, none] ∧ Same H1 H' ∧ H' q = some (.lst (lN ks2)) ∧ dr.length = i ∧ TotsW H' lt (dr ++ [dl]) Ds ∧ ∀ j, j ≤ i → Tot g A j (Ds j))
      ⟨none, [], d, _, rfl, s2.trans s3, hq3, rfl, tw0.same s3, fun j hj => by
        have : j = 0 := by omega
        subst this
        exact Tot.zero g A fun v => rfl⟩ (fun i σ H' _ ⟨_, _, _, _, _, _, hq4, _⟩ => SqL.of hq4) ?_ ?_⟩
    · rintro i z σ H' hz ⟨v4, dr, dl, Ds, rfl, s4, hq4, dlen, tw, tot⟩
      obtain ⟨x, hx, rfl⟩ := lN_get hz
      have hil : i < ks2.length := (List.getElem?_eq_some_iff.mp hx).1
      obtain ⟨kv, hdl, dD⟩ := tw.2 i dl (by rw [List.getElem?_append_right (by omega), dlen, Nat.sub_self]; rfl)
      have er : (dr ++ [dl]).map V.ref = dr.map V.ref ++ [V.ref dl] := by rw [List.map_append]; rfl
      refine ⟨_, rfl, .inl ⟨rfl, _, SqL.of tw.1⟩, _, rfl, _, rfl, _, rfl, lt, _, _, _, rfl, rfl, SqL.of tw.1, by rw [er]; exact atI_last _ _, p1, dl, ts, kv, Ds i, rfl, s4 _ _ hl1, ha1.keep (same_tups s4), tlen, hdl, dD, fun H5 pn kvs' Fn s5 hpn hpn5 dF bh => ?_⟩
      rw [em] at bh
      have tn := Bh.done rc (tot i (Nat.le_refl _)) bh
      have hl5 := s5 _ _ tw.1
      have n5 : lt ≠ q := nlq
      refine ⟨lt, _, _, rfl, rfl, hl5, by rw [List.length_map, List.length_append, dlen]; show i + 1 < sizeLine; exact size_lt (by omega), ?_⟩
      refine ⟨_, dr ++ [dl], pn, _, rfl, same_into (s4.trans s5) hlt1, by rw [upd_ne (fun e => n5 e.symm)]; exact s5 _ _ hq4, by rw [List.length_append, dlen]; rfl, tw.more s5 hpn5 dF, fun j hj => ?_⟩
      have el : (dr ++ [dl]).length = i + 1 := by rw [List.length_append, dlen]; rfl
      show Tot g A j (if j = (dr ++ [dl]).length then Fn else Ds j)
      by_cases c : j = i + 1
      · subst c
        rw [if_pos el.symm]
        exact tn
      · rw [if_neg (by omega)]
        exact tot j (by omega)
    · rintro σ H4 ⟨v4, dr, dn, Ds, rfl, s4, hq4, dlen, tw, tot⟩
      have eln : (lN ks2).length = ks2.length := by unfold lN; rw [List.length_map]
      rw [eln] at dlen tot
      generalize hn : ks2.length = n at dlen tot
      have hnl : n ≤ 16 := by omega
      obtain ⟨kvs, hdn, dD⟩ := tw.2 n dn (by rw [List.getElem?_append_right (by omega), dlen, Nat.sub_self]; rfl)
      have er : (dr ++ [dn]).map V.ref = dr.map V.ref ++ [V.ref dn] := by rw [List.map_append]; rfl
      have hnl' : lt ≠ dn := ne_of tw.1 hdn (by intro z; cases z)
      obtain ⟨⟨mp, mq⟩, emean, hmean, hmq⟩ := best_mean (g := g) o
      -- for state in totals[-1]
      refine ⟨dn, _, hdn, trivial, fun od => ?_⟩
      generalize hHL : upd H4 dn (.frz od (.dK kvs)) = HL
      have hdL : HL dn = some (.frz od (.dK kvs)) := by rw [← hHL]; exact upd_same
      have hlL : HL lt = some (.lst ((dr ++ [dn]).map V.ref)) := by rw [← hHL, upd_ne hnl']; exact tw.1
      have tL : TotsAt HL lt (dr ++ [dn]) Ds := by
        refine ⟨hlL, fun i e he => ?_⟩
        obtain ⟨kv, r1, r2⟩ := tw.2 i e he
        refine ⟨kv, ?_, r2⟩
        by_cases c : e = dn
        · subst c
          rw [hdn] at r1
          have : kvs = kv := by injection (Option.some.inj r1)
          subst this
          exact .inr ⟨od, hdL⟩
        · exact .inl (by rw [← hHL, upd_ne c]; exact r1)
      refine ⟨_, rfl, _, rfl, lt, _, _, _, rfl, rfl, SqL.of hlL, by rw [er]; exact atI_last _ _, dn, od, rfl, .inl ⟨kvs, hdL, ?_⟩⟩
      refine for_it (walk_keys (d := dn) (o := od) (kvs := kvs)) (fun i σ H' => ∃ (vb v6 v7 : Option V), σ = [some (.ref a), some (.ref pa), some (.ref p1), some (.ref lt), v4, vb, v6, v7, none] ∧ Same HL H' ∧
          ((i = 0 ∧ vb = some .non) ∨ ∃ (t : Addr) (x y : Int), vb = some (.ref t) ∧ H' t = some (.tup [.int x, .int y]) ∧ 0 < y ∧ y ≤ 16 ∧ (∃ v, Lby Ds n v x y) ∧ ∀ (j v : Nat) (u : V), j < i → kvs[j]? = some (.inl (v : Int), u) → ∃ x' y', Lby Ds n v x' y' ∧ x' * y ≤ x * y'))
        ⟨_, none, none, rfl, Same.refl HL, .inl ⟨rfl, rfl⟩⟩ (fun i σ H' _ ⟨_, _, _, _, s6, _⟩ => s6 _ _ hdL) ?_ ?_
      · rintro i z σ H5 H6 hi ⟨vb, v6, v7, rfl, s6, hb⟩ ⟨rfl, kk, u, hku, rfl⟩
        obtain ⟨v, rfl⟩ := dD.key kk (List.mem_map.mpr ⟨_, List.mem_of_getElem? hku, rfl⟩)
        have hx : ∃ x, Ds n v = some x := by
          cases e : Ds n v with
          | some x => exact ⟨x, rfl⟩
          | none =>
            have e2 := dD.val v
            rw [e] at e2
            exact absurd (List.mem_map.mpr ⟨_, List.mem_of_getElem? hku, rfl⟩) (valV_not e2)
        obtain ⟨x, hx⟩ := hx
        have hloose := hmean.loose rc2 (Ds := Ds) (fun i hi => tot i (by omega)) (v := v) (x := x) (by rw [hn]; exact hx)
        obtain ⟨r, hr', y, hy, _⟩ := hloose
        refine ⟨_, rfl, _, rfl, lt, v, n, dr ++ [dn], Ds, x, rfl, tL.same s6, by rw [List.length_append, dlen]; rfl, hnl, hx, ⟨r, by omega, y, hy⟩, fun H7 t ta tb s7 ht L tb0 tb1 => ?_⟩
        have s67 : Same HL H7 := s6.trans s7
        refine ⟨_, rfl, _, rfl, ?_⟩
        refine itnd (fun _ => ?_) (fun c => by cases c)
        have fin : ∀ (v5 : V), (∃ (t : Addr) (x y : Int), v5 = .ref t ∧ H7 t = some (.tup [.int x, .int y]) ∧ 0 < y ∧ y ≤ 16 ∧ (∃ v, Lby Ds n v x y) ∧ ∀ (j v : Nat) (u : V), j < i + 1 → kvs[j]? = some (.inl (v : Int), u) → ∃ x' y', Lby Ds n v x' y' ∧ x' * y ≤ x * y') →
            ∃ (vb v6 v7 : Option V), [some (.ref a), some (.ref pa), some (.ref p1), some (.ref lt), v4, some v5, some (.int (v : Int)), some (.ref t), none] = [some (.ref a), some (.ref pa), some (.ref p1), some (.ref lt), v4, vb, v6, v7, none] ∧ Same HL H7 ∧
              ((i + 1 = 0 ∧ vb = some .non) ∨ ∃ (t : Addr) (x y : Int), vb = some (.ref t) ∧ H7 t = some (.tup [.int x, .int y]) ∧ 0 < y ∧ y ≤ 16 ∧ (∃ v, Lby Ds n v x y) ∧ ∀ (j v : Nat) (u : V), j < i + 1 → kvs[j]? = some (.inl (v : Int), u) → ∃ x' y', Lby Ds n v x' y' ∧ x' * y ≤ x * y') := by
          rintro v5 ⟨t', x', y', rfl, q⟩
          exact ⟨_, _, _, rfl, s67, .inr ⟨t', x', y', rfl, q⟩⟩
        have self : ∀ (j v' : Nat) (u' : V), j = i → kvs[j]? = some (.inl (v' : Int), u') → v' = v := by
          intro j v' u' ej e
          rw [ej, hku] at e
          have e := Option.some.inj e
          injection e with e1 _
          have := Sum.inl.inj e1
          omega
        rcases hb with ⟨rfl, rfl⟩ | ⟨t0, x0, y0, rfl, ht0, q0, q1, q2, q3⟩
        · refine ⟨_, rfl, _, rfl, iteT (iteT ?_)⟩
          refine ⟨_, rfl, fin _ ⟨t, ta, tb, rfl, ht, tb0, tb1, ⟨v, L⟩, fun j v' u' hj e => ?_⟩⟩
          have := self j v' u' (by omega) e
          subst this
          exact ⟨ta, tb, L, Int.le_refl _⟩
        · refine ⟨_, rfl, _, rfl, iteF ?_⟩
          refine ⟨_, rfl, _, rfl, t0, t, _, _, _, _, rfl, SqT.of (s7 _ _ ht0), SqT.of ht, by omega, by omega, by omega, by omega, _, rfl, ?_⟩
          refine itd (fun c => ?_) (fun c => ?_)
          · refine ⟨_, rfl, fin _ ⟨t, ta, tb, rfl, ht, tb0, tb1, ⟨v, L⟩, fun j v' u' hj e => ?_⟩⟩
            by_cases cj : j = i
            · have := self j v' u' cj e
              subst this
              exact ⟨ta, tb, L, Int.le_refl _⟩
            · obtain ⟨x', y', L', le⟩ := q3 j v' u' (by omega) e
              exact ⟨x', y', L', rt q0 (Int.le_of_lt L'.pos) (by omega) le (Int.le_of_lt c)⟩
          · refine fin _ ⟨t0, x0, y0, rfl, s7 _ _ ht0, q0, q1, q2, fun j v' u' hj e => ?_⟩
            by_cases cj : j = i
            · have := self j v' u' cj e
              subst this
              exact ⟨ta, tb, L, by omega⟩
            · exact q3 j v' u' (by omega) e
      · rintro σ H5 ⟨vb, v6, v7, rfl, s6, hb⟩
        refine ⟨s6 _ _ hdL, ?_⟩
        generalize hH6 : upd H5 dn (.dK kvs) = H6
        rcases hb with ⟨hz, _⟩ | ⟨t0, x0, y0, rfl, ht0, q0, q1, q2, q3⟩
        · exfalso
          have hk0 : kvs = [] := List.eq_nil_of_length_eq_zero hz
          have hrep : (List.replicate n 0).length = n := List.length_replicate
          cases e : Ds n (run A 0 (List.replicate n 0)) with
          | none => exact (tot n (Nat.le_refl _)).no _ e _ hrep rfl
          | some x =>
            have := dD.val (run A 0 (List.replicate n 0))
            rw [e, hk0] at this
            cases this
        · have hd5 := s6 _ _ hdL
          have ht6 : H6 t0 = some (.tup [.int x0, .int y0]) := by
            rw [← hH6, upd_ne (ne_of ht0 hd5 (by intro z; cases z))]
            exact ht0
          have s06 : Same H H6 := fun b ob e => by
            have e4 := s4 _ _ (s1 _ _ e)
            rw [← hH6]
            by_cases c : b = dn
            · rw [c] at e4 ⊢
              rw [hdn] at e4
              rw [upd_same]
              exact e4
            · rw [upd_ne c]
              refine s6 _ _ ?_
              rw [← hHL, upd_ne c]
              exact e4
          obtain ⟨bn, rfl⟩ : ∃ bn : Nat, y0 = (bn : Int) := ⟨y0.toNat, by omega⟩
          have karp : Karp Ds ks2.length x0 (bn : Int) := by
            rw [hn]
            refine ⟨q2, fun v x e => ?_⟩
            have ev := dD.val v
            rw [e] at ev
            obtain ⟨⟨kk, u⟩, hm, ek⟩ := List.mem_map.mp (valV_in ev)
            have ek : kk = .inl (v : Int) := ek
            subst ek
            obtain ⟨j, hj⟩ := List.getElem?_of_mem hm
            exact q3 j v u (List.getElem?_eq_some_iff.mp hj).1 hj
          obtain ⟨bp, eb⟩ := best_is o rc2 (Ds := Ds) (fun i hi => tot i (by omega)) karp
          have gp : 0 < Nat.gcd bn x0.natAbs := Nat.gcd_pos_of_pos_left _ bp
          have gl : Nat.gcd bn x0.natAbs ≤ bn := Nat.le_of_dvd bp (Nat.gcd_dvd_left _ _)
          refine ⟨_, rfl, t0, _, 1, _, rfl, rfl, SqT.of ht6, atI_nat (j := 1) rfl, _, rfl, t0, _, 0, _, rfl, rfl, SqT.of ht6, atI_nat (j := 0) rfl, x0, rfl, bn, x0.natAbs, congrArg (fun z => [V.int (bn : Int), V.int z]) (by split <;> omega), ?_⟩
          refine ⟨_, rfl, t0, _, 0, _, rfl, rfl, SqT.of ht6, atI_nat (j := 0) rfl, _, rfl, _, _, rfl, rfl, ⟨by omega, by omega⟩, _, rfl, t0, _, 1, _, rfl, rfl, SqT.of ht6, atI_nat (j := 1) rfl, _, rfl, _, _, rfl, rfl, ⟨by omega, by omega⟩, (by show 2 ≤ sizeLine; decide), fun tr htr => ?_⟩
          refine k _ tr (same_into s06 (s06.free htr)) ?_
          rw [upd_same, eb]
          unfold Rc89.lowest
          rw [Nat.gcd_comm bn x0.natAbs]
          rfl
end
end Gt
/-! ## GtD12 -/
namespace Gt
open PySem PySem.Spec PyProof.Rows L2
open Rc89 (act next again since path)
/-! ### a dict of triples by their places -/
abbrev Tri := Int × Int × Int
abbrev kT (t : Tri) : List Key := [.inl t.1, .inl t.2.1, .inl t.2.2]
theorem kT_inj {p q : Tri} (h : kT p = kT q) : p = q := by
  injection h with h1 h2
  injection h2 with h2 h3
  injection h3 with h3 _
  exact Prod.ext (Sum.inl.inj h1) (Prod.ext (Sum.inl.inj h2) (Sum.inl.inj h3))
def dTri : Nat → List Tri → List (List Key × V)
  | _, [] => []
  | n, p :: l => (kT p, V.int (n : Int)) :: dTri (n + 1) l
theorem dTri_no {p : Tri} : ∀ {l : List Tri} {n : Nat}, ¬ p ∈ l → valV (dTri n l) (kT p) = none
  | [], _, _ => rfl
  | q :: l, n, h => by
    rw [dTri, valV_neg (fun z => h (by rw [kT_inj z]; exact List.mem_cons_self))]
    exact dTri_no fun m => h (List.mem_cons_of_mem _ m)
theorem dTri_at {p : Tri} : ∀ {l : List Tri} {n j : Nat}, l.Nodup → l[j]? = some p → valV (dTri n l) (kT p) = some (.int ((n + j : Nat) : Int))
  | [], _, _, _, h => by simp at h
  | q :: l, n, 0, _, h => by
    have e : q = p := Option.some.inj h
    rw [dTri, e, valV_pos rfl]
    rfl
  | q :: l, n, j + 1, nd, h => by
    have h : l[j]? = some p := h
    have nd := List.nodup_cons.mp nd
    have ne : q ≠ p := fun z => nd.1 (by rw [z]; exact List.mem_of_getElem? h)
    rw [dTri, valV_neg (fun z => ne (kT_inj z)), dTri_at nd.2 h]
    rw [show n + 1 + j = n + (j + 1) by omega]
theorem dTri_snoc {p : Tri} : ∀ {l : List Tri} {n : Nat}, dTri n l ++ [(kT p, V.int ((n + l.length : Nat) : Int))] = dTri n (l ++ [p])
  | [], n => rfl
  | q :: l, n => by
    rw [List.cons_append, dTri, dTri, List.cons_append, ← dTri_snoc (p := p) (l := l) (n := n + 1), List.length_cons, show n + 1 + l.length = n + (l.length + 1) by omega]
theorem dTri_put {p : Tri} {l : List Tri} (h : ¬ p ∈ l) : putK (dTri 0 l) (kT p) (V.int (l.length : Int)) = dTri 0 (l ++ [p]) := by
  rw [putK_new _ (dTri_no h), ← dTri_snoc, Nat.zero_add]
theorem dTri_len : ∀ (l : List Tri) (n : Nat), (dTri n l).length = l.length
  | [], _ => rfl
  | q :: l, n => by rw [dTri, List.length_cons, dTri_len l, List.length_cons]
section
variable {P : Program} {w : World} {K : PySem.W.Frag} {mg : Str → Option Value} {base : Heap} {CM CP CX CT : Addr}
def sgn (A : Rc89.Machine) (c : Nat → Int) (s : Nat) : Tri := (c s, c (next A s 0), c (next A s 1))
/-! ### classes_behind -/
/-- between two turns -/
def ClsInv (H : Hp) (A : Rc89.Machine) (c : Nat → Int) (ks : List Nat) (a ls dc p q : Addr) (i : Nat) (σ : L2.St) (H' : Hp) : Prop :=
  ∃ (v5 v6 v7 v8 : Option V) (sg : List Tri) (kvs' : List (Key × V)) (F : Nat → Option Int), σ = [some (.ref a), some (.ref ls), some (.ref dc), some (.ref p), some (.ref q), v5, v6, v7, v8] ∧ Same H H' ∧ sg.Nodup ∧ sg.length ≤ i ∧ H' p = some (.dT (dTri 0 sg)) ∧ H' q = some (.dK kvs') ∧ kvs'.length ≤ i ∧ DictIs kvs' F ∧
    (∀ s, s ∈ ks.take i → ∃ j : Nat, sg[j]? = some (sgn A c s) ∧ F s = some (j : Int))
def spClasses (C : Addr) : Sp := fun vs H Q _ => ∃ (a ls dc : Addr) (A : Rc89.Machine) (ks : List Nat) (kvs : List (Key × V)) (D : Nat → Option Int) (c : Nat → Int), vs = [.ref a, .ref ls, .ref dc] ∧ MachAt C H a A ∧ Ok A ∧ Rch A ks ∧ H ls = some (.lst (lN ks)) ∧ H dc = some (.dK kvs) ∧ DictIs kvs D ∧ (∀ s ∈ ks, D s = some (c s)) ∧
  ∀ (H' : Hp) (p : Addr) (kvs' : List (Key × V)) (F : Nat → Option Int) (d : Nat → Int), Same H H' → H p = none → H' p = some (.dK kvs') → DictIs kvs' F → (∀ s ∈ ks, F s = some (d s)) → (∀ s ∈ ks, ∀ u ∈ ks, d s = d u ↔ (c s = c u ∧ c (next A s 0) = c (next A u 0) ∧ c (next A s 1) = c (next A u 1))) → Q (.ref p) H'
theorem scClasses : FnScope ["machine", "states", "classes", "signs", "found", "state", "first", "second", "sign"] ["machine", "states", "classes"] (defScope sClasses) := ⟨rfl, rfl, rfl, by decide +kernel, rfl, by decide +kernel, by decide +kernel⟩
theorem ok_classes {f : Addr} {fd : FuncData} (F : Fun K "classes_behind" "classes_behind" sClasses f fd) (T : Txt K mg CM CP CX CT) : FnOk P w K mg base CX0 1 f fd ["machine", "states", "classes"] (spClasses CM) := by
  refine F.ok scClasses (fun vs H Q E h => ?_) (fun cdv Ar outer s H vs Q E hr h => ?_)
  · obtain ⟨a, ls, dc, A, ks, kvs, D, c, rfl, _⟩ := h
    rfl
  · obtain ⟨a, ls, dc, A, ks, kvs, D, c, rfl, ⟨dx, ld, ln, ts, h1, h2, h3, h4, h5⟩, o, rc, hls, hdc, dD, hD, k⟩ := h
    have hu := hu_of hr
    refine ⟨_, pss_cons (ps_set (i := 3) scClasses.nd rfl (Or.inl rfl) pe_dnewT)
      (pss_cons (ps_set (i := 4) scClasses.nd rfl (Or.inl rfl) pe_dnewK)
      (pss_cons (ps_for PassesOwn.never rfl (pi_list (pv 1)) (pg_name (i := 5) scClasses.nd rfl (Or.inl rfl))
        (pss_cons (ps_asg (pe_ix ix_list (pe_fld (pv 0) rfl) (pv 5) (fun _ _ => rfl)) (pg_tup (by rfl) (pgs_cons (pg_name (i := 6) scClasses.nd rfl (Or.inl rfl)) (pgs_cons (pg_name (i := 7) scClasses.nd rfl (Or.inl rfl)) pgs_nil))))
        (pss_cons (ps_set (i := 8) scClasses.nd rfl (Or.inl rfl) (pe_tup (pa_cons (pe_dget hu (pv 2) (pv 5) (fun _ _ => rfl)) (pa_cons (pe_dget hu (pv 2) (pv 6) (fun _ _ => rfl)) (pa_cons (pe_dget hu (pv 2) (pv 7) (fun _ _ => rfl)) pa_nil)))))
        (pss_cons (ps_if (pt_cmp (pc_dnotin hu (pv 8) (pv 3))) (pss_one (ps_dput hu (pv 3) (pv 8) (pe_callB call_len_dT (by rfl) T.len PySem.boot_len (pa_cons (pv 3) pa_nil)) rfl)) pss_nil)
        (pss_one (ps_dput hu (pv 4) (pv 5) (pe_dget hu (pv 3) (pv 8) (fun _ _ => rfl)) rfl))))))
      (pss_one (ps_ret (pv 4))))), ?_⟩
    refine fun p hp q hq => ?_
    have hq0 : H q = none := (same_upd hp).free hq
    have npq : p ≠ q := fun e => by rw [← e, upd_same] at hq; cases hq
    have s0 : Same H (upd (upd H p (.dT [])) q (.dK [])) := same_into (same_into (Same.refl H) hp) hq0
    have kl := rc.len_le o
    have om := o.most
    refine ⟨_, rfl, ls, rfl, ⟨_, SqL.of (s0 _ _ hls)⟩, for_list (K := K) (a := ls) (xs := lN ks) (ClsInv H A c ks a ls dc p q)
      ⟨none, none, none, none, [], [], fun _ => none, rfl, s0, List.nodup_nil, Nat.le_refl _, by rw [upd_ne npq]; exact upd_same, upd_same, Nat.le_refl _, DictIs.nil, fun s hs => by simp at hs⟩ (fun i σ H' _ ⟨_, _, _, _, _, _, _, _, s1, _⟩ => SqL.of (s1 _ _ hls)) ?_ ?_⟩
    · rintro i z σ H' hz ⟨v5, v6, v7, v8, sg, kvs', F, rfl, s1, nd, sl, hp1, hq1, kl1, dF, hF⟩
      obtain ⟨x, hx, rfl⟩ := lN_get hz
      have hxm : x ∈ ks := List.mem_of_getElem? hx
      have hxl : x < A.length := ((rc.mem x).mp hxm).lt o
      have hil : i < ks.length := (List.getElem?_eq_some_iff.mp hx).1
      obtain ⟨tx, htx⟩ : ∃ t, ts[x]? = some t := ⟨_, List.getElem?_eq_getElem (by omega)⟩
      refine ⟨_, rfl, a, CM, dx, _, _, rfl, s1 _ _ h1, T.clM, T.nN, f2_snd (by decide +kernel), _, rfl, ln, _, _, _, rfl, rfl, SqL.of (s1 _ _ h3), atI_nat (refs_at' htx), tx, _, rfl, SqT.of (s1 _ _ (h5 x tx htx)), rfl, _, _, rfl, _, _, rfl, rfl, ?_⟩
      have get : ∀ v, v ∈ ks → DGet H' dc (.int (v : Int)) (some (.int (c v))) := fun v hv => by
        have g := dD.get (.inl (s1 _ _ hdc)) v
        rw [hD v hv] at g
        exact g
      refine ⟨_, rfl, _, rfl, dc, _, rfl, get x hxm, _, rfl, _, rfl, dc, _, rfl, get _ (reached_cl rc 0 x hxm), _, rfl, _, rfl, dc, _, rfl, get _ (reached_cl rc 1 x hxm), (by show 3 ≤ sizeLine; decide), fun tn htn => ?_⟩
      generalize hH2 : upd H' tn (.tup [.int (c x), .int (c (next A x 0)), .int (c (next A x 1))]) = H2
      have s2 : Same H H2 := by rw [← hH2]; exact same_into s1 (s1.free htn)
      have hp2 : H2 p = some (.dT (dTri 0 sg)) := by rw [← hH2, upd_ne (ne_of_none hp1 htn)]; exact hp1
      have hq2 : H2 q = some (.dK kvs') := by rw [← hH2, upd_ne (ne_of_none hq1 htn)]; exact hq1
      have htn2 : H2 tn = some (.tup ((kT (sgn A c x)).map kV)) := by rw [← hH2]; exact upd_same
      refine ⟨_, rfl, _, rfl, p, _, rfl, DGet.t (k := kT (sgn A c x)) hp2 htn2, _, rfl, ?_⟩
      -- what follows the if: found[state] = signs[sign]
      have fin : ∀ (sg' : List Tri) (H3 : Hp), Same H H3 → sg'.Nodup → sg'.length ≤ i + 1 → H3 p = some (.dT (dTri 0 sg')) → H3 q = some (.dK kvs') → H3 tn = some (.tup ((kT (sgn A c x)).map kV)) → (∃ j : Nat, sg'[j]? = some (sgn A c x)) → (∀ (j : Nat) (t : Tri), sg[j]? = some t → sg'[j]? = some t) →
          ∃ (j : Nat) (H4 : Hp), DGet H3 p (.ref tn) (some (.int ((0 + j : Nat) : Int))) ∧ DPut H3 q (.int (x : Int)) (.int ((0 + j : Nat) : Int)) H4 ∧
            ClsInv H A c ks a ls dc p q (i + 1) [some (.ref a), some (.ref ls), some (.ref dc), some (.ref p), some (.ref q), some (.int (x : Int)), some (.int (next A x 0 : Nat)), some (.int (next A x 1 : Nat)), some (.ref tn)] H4 := by
        intro sg' H3 s3 nd' sl' hp3 hq3 ht3 ⟨j, hj⟩ grow
        have g3 : DGet H3 p (.ref tn) (some (.int ((0 + j : Nat) : Int))) := by
          have g := DGet.t (k := kT (sgn A c x)) hp3 ht3
          rw [dTri_at nd' hj] at g
          exact g
        refine ⟨j, _, g3, DPut.k (k := .inl (x : Int)) hq3 (size_lt (by omega)), ?_⟩
        refine ⟨_, _, _, _, sg', _, _, rfl, same_into s3 hq0, nd', sl', by rw [upd_ne npq]; exact hp3, upd_same, ?_, dF.put x _, fun s hs => ?_⟩
        · have := length_putK kvs' (.inl (x : Int)) (V.int ((0 + j : Nat) : Int))
          omega
        · unfold Gt.put
          by_cases e : s = x
          · subst e
            rw [if_pos rfl]
            exact ⟨j, hj, by rw [Nat.zero_add]⟩
          · rw [if_neg e]
            rw [take_more hx] at hs
            rcases List.mem_append.mp hs with hs | hs
            · obtain ⟨j', q1, q2⟩ := hF s hs
              exact ⟨j', grow j' _ q1, q2⟩
            · rw [List.mem_singleton] at hs
              exact absurd hs e
      by_cases cs : sgn A c x ∈ sg
      · obtain ⟨j, hj⟩ := List.getElem?_of_mem cs
        rw [dTri_at nd hj]
        refine iteF ?_
        obtain ⟨j', H4, g, d, iv⟩ := fin sg H2 s2 nd (by omega) hp2 hq2 htn2 ⟨j, hj⟩ (fun _ _ e => e)
        exact ⟨_, rfl, _, rfl, p, _, rfl, g, _, rfl, _, rfl, q, H4, rfl, d, iv⟩
      · rw [dTri_no cs]
        refine iteT ?_
        refine ⟨_, rfl, p, _, rfl, hp2, _, rfl, _, rfl, p, _, rfl, DPut.t (k := kT (sgn A c x)) hp2 htn2 (by rw [dTri_len]; exact size_lt (by omega)), ?_⟩
        rw [dTri_len, dTri_put cs]
        have step := fin (sg ++ [sgn A c x]) (upd H2 p (.dT (dTri 0 (sg ++ [sgn A c x])))) (same_into s2 hp) ?_ (by rw [List.length_append]; show sg.length + 1 ≤ i + 1; omega) upd_same (by rw [upd_ne (fun e => npq e.symm)]; exact hq2) ?_ ?_ ?_
        · obtain ⟨j', H4, g, d, iv⟩ := step
          exact ⟨_, rfl, _, rfl, p, _, rfl, g, _, rfl, _, rfl, q, H4, rfl, d, iv⟩
        · rw [List.nodup_append]
          refine ⟨nd, by simp, fun u hu v hv => ?_⟩
          rw [List.mem_singleton] at hv
          intro e
          rw [hv] at e
          rw [e] at hu
          exact cs hu
        · rw [upd_ne (ne_of htn2 hp2 (by intro z; cases z))]
          exact htn2
        · exact ⟨sg.length, by rw [List.getElem?_append_right (Nat.le_refl _), Nat.sub_self]; rfl⟩
        · intro j t e
          rw [List.getElem?_append_left (List.getElem?_eq_some_iff.mp e).1]
          exact e
    · rintro σ H' ⟨v5, v6, v7, v8, sg, kvs', F, rfl, s1, nd, sl, hp1, hq1, kl1, dF, hF⟩
      rw [List.take_of_length_le (by unfold lN; rw [List.length_map]; exact Nat.le_refl _)] at hF
      refine ⟨_, rfl, k H' q kvs' F (fun s => (F s).getD 0) s1 hq0 hq1 dF (fun s hs => ?_) (fun s hs u hu => ?_)⟩
      · obtain ⟨j, _, e⟩ := hF s hs
        rw [e]
        rfl
      · obtain ⟨j, q1, e1⟩ := hF s hs
        obtain ⟨j', q2, e2⟩ := hF u hu
        rw [e1, e2]
        show ((j : Int) = (j' : Int)) ↔ _
        constructor
        · intro e
          have e : j = j' := by omega
          rw [e, q2] at q1
          have e := Option.some.inj q1
          unfold sgn at e
          injection e with a1 a2
          injection a2 with a2 a3
          exact ⟨a1.symm, a2.symm, a3.symm⟩
        · intro ⟨a1, a2, a3⟩
          have e : sgn A c s = sgn A c u := by unfold sgn; rw [a1, a2, a3]
          rw [e] at q1
          have := nd_ix nd q1 q2
          rw [this]
end
end Gt
/-! ## GtD13 -/
namespace Gt
open PySem PySem.Spec PyProof.Rows L2
open Rc89 (act next again since path)
section
variable {P : Program} {w : World} {K : PySem.W.Frag} {mg : Str → Option Value} {base : Heap} {CM CP CX CT : Addr}
/-! ### fewest_states -/
def spFewest (C : Addr) : Sp := fun vs H Q _ => ∃ (a : Addr) (A : Rc89.Machine), vs = [.ref a] ∧ MachAt C H a A ∧ Ok A ∧ ∀ H' : Hp, Same H H' → Q (.int (Rc89.least A : Nat)) H'
theorem scFewest : FnScope ["machine", "states", "classes", "state", "turn"] ["machine"] (defScope sFewest) := ⟨rfl, rfl, rfl, by decide +kernel, rfl, by decide +kernel, by decide +kernel⟩
theorem ok_fewest {f fR fB : Addr} {fd fdR fdB : FuncData} (F : Fun K "fewest_states" "fewest_states" sFewest f fd) (T : Txt K mg CM CP CX CT) (GR : Md P w K mg base CM "reached" 1 ["self"] (spReached CM) fR fdR) (GB : Df P w K mg base "classes_behind" 1 ["machine", "states", "classes"] (spClasses CM) fB fdB) :
    FnOk P w K mg base CX0 2 f fd ["machine"] (spFewest CM) := by
  refine F.ok scFewest (fun vs H Q E h => ?_) (fun cdv Ar outer s H vs Q E hr h => ?_)
  · obtain ⟨a, A, rfl, _⟩ := h
    rfl
  · obtain ⟨a, A, rfl, hM, o, k⟩ := h
    have hu := hu_of hr
    refine ⟨_, pss_cons (ps_set (i := 1) scFewest.nd rfl (Or.inl rfl) (pe_meth0 (pv 0) T.clM GR.m GR.ok hr GR.b .nil pass0))
      (pss_cons (ps_set (i := 2) scFewest.nd rfl (Or.inr rfl) pe_dnewK)
      (pss_cons (ps_for PassesOwn.never rfl (pi_list (pv 1)) (pg_name (i := 3) scFewest.nd rfl (Or.inl rfl)) (pss_one (ps_dput hu (pv 2) (pv 3) (pe_ix ix_list (pe_fld (pv 0) rfl) (pv 3) (fun _ _ => rfl)) rfl)))
      (pss_cons (ps_for PassesOwn.never rfl (pi_list (pv 1)) (pg_name (i := 4) scFewest.nd rfl (Or.inl rfl)) (pss_one (ps_set (i := 2) scFewest.nd rfl (Or.inr rfl) (pe_call GB.ok hr (by rfl) GB.mg GB.kp GB.b .nil pass0 (pa_cons (pv 0) (pa_cons (pv 1) (pa_cons (pv 2) pa_nil)))))))
      (pss_one (ps_ret (pe_lenSetD (by rfl) T.len (by rfl) T.set (pe_lc (own := [("state", 3)]) (g := gName 3) (tt := tYes) (te := tDGet (tVar 2) (tVar 3)) (by rfl) scFewest.nd (pi_list (pv 1))
        (blkOk_by (own := [("state", 3)]) (N := ["machine", "states", "classes", "state", "turn"]) (sc := defScope sFewest) (by decide +kernel)) (fun _ _ _ _ _ => pg_name (i := 3) scFewest.nd rfl (Or.inl rfl)) (fun _ _ _ _ _ => pts_nil) (fun _ _ _ _ _ => pe_dget hu (pv 2) (pv 3) (fun _ _ => rfl))) rfl)))))), ?_⟩
    obtain ⟨dx, ld, ln, ts, h1, h2, h3, h4, h5⟩ := hM
    have hM' : MachAt CM H a A := ⟨dx, ld, ln, ts, h1, h2, h3, h4, h5⟩
    refine ⟨_, rfl, a, dx, _, rfl, h1, f2_no (by decide +kernel) (by decide +kernel), a, A, rfl, hM', o, fun H1 p ks s1 hp hp1 rc => ?_⟩
    have kl := rc.len_le o
    have om := o.most
    have el : (lN ks).length = ks.length := by unfold lN; rw [List.length_map]
    refine fun q hq => ?_
    have npq : p ≠ q := ne_of_none hp1 hq
    have hq0 : H q = none := s1.free hq
    -- classes[state] = machine.deeds[state]
    refine ⟨_, rfl, p, rfl, ⟨_, SqL.of (same_upd hq _ _ hp1)⟩, for_list (K := K) (a := p) (xs := lN ks) (fun i σ H' => ∃ (v3 : Option V) (kvs : List (Key × V)) (F : Nat → Option Int), σ = [some (.ref a), some (.ref p), some (.ref q), v3, none] ∧ Same H1 H' ∧ H' q = some (.dK kvs) ∧ kvs.length ≤ i ∧ DictIs kvs F ∧ ∀ s, s ∈ ks.take i → F s = some (act A s : Int))
      ⟨none, [], fun _ => none, rfl, same_upd hq, upd_same, Nat.le_refl _, DictIs.nil, fun s hs => by simp at hs⟩ (fun i σ H' _ ⟨_, _, _, _, s2, _⟩ => SqL.of (s2 _ _ hp1)) ?_ ?_⟩
    · rintro i z σ H' hz ⟨v3, kvs, F, rfl, s2, hq2, kl2, dF, hF⟩
      obtain ⟨x, hx, rfl⟩ := lN_get hz
      have hxl : x < A.length := ((rc.mem x).mp (List.mem_of_getElem? hx)).lt o
      have hil : i < ks.length := (List.getElem?_eq_some_iff.mp hx).1
      have s02 := s1.trans s2
      refine ⟨_, rfl, a, CM, dx, _, _, rfl, s02 _ _ h1, T.clM, T.nD, f2_fst, _, rfl, ld, _, _, _, rfl, rfl, SqL.of (s02 _ _ h2), atI_nat (deed_at hxl), _, rfl, _, rfl, q, _, rfl, DPut.k (k := .inl (x : Int)) hq2 (size_lt (by omega)), ?_⟩
      refine ⟨_, _, _, rfl, same_into s2 hq, upd_same, ?_, dF.put x _, fun s hs => ?_⟩
      · have := length_putK kvs (.inl (x : Int)) (V.int (act A x : Nat))
        omega
      · unfold Gt.put
        by_cases e : s = x
        · rw [if_pos e, e]
        · rw [if_neg e]
          rw [take_more hx] at hs
          rcases List.mem_append.mp hs with hs | hs
          · exact hF s hs
          · rw [List.mem_singleton] at hs
            exact absurd hs e
    rintro σ H2 ⟨v3, kvs0, F0, rfl, s2, hq2, kl2, dF0, hF0⟩
    rw [List.take_of_length_le (by rw [el]; exact Nat.le_refl _)] at hF0
    have hp2 := s2 _ _ hp1
    -- classes = classes_behind(machine, states, classes)
    refine ⟨_, rfl, p, rfl, ⟨_, SqL.of hp2⟩, for_list (K := K) (a := p) (xs := lN ks) (fun i σ H' => ∃ (v4 : Option V) (qi : Addr) (kvs : List (Key × V)) (F : Nat → Option Int) (c : Nat → Int), σ = [some (.ref a), some (.ref p), some (.ref qi), v3, v4] ∧ Same H2 H' ∧ H' qi = some (.dK kvs) ∧ DictIs kvs F ∧ (∀ s, s ∈ ks → F s = some (c s)) ∧ Gt.Cls A ks (i + 1) c)
      ⟨none, q, kvs0, F0, _, rfl, Same.refl H2, hq2, dF0, hF0, Cls.first A ks⟩ (fun i σ H' _ ⟨_, _, _, _, _, _, s3, _⟩ => SqL.of (s3 _ _ hp2)) ?_ ?_⟩
    · rintro i z σ H' hz ⟨v4, qi, kvs, F, c, rfl, s3, hq3, dF, hF, hc⟩
      obtain ⟨x, hx, rfl⟩ := lN_get hz
      have s03 := (s1.trans s2).trans s3
      refine ⟨_, rfl, _, rfl, _, rfl, a, p, qi, A, ks, kvs, F, c, rfl, hM'.same s03, o, rc, s3 _ _ hp2, hq3, dF, hF, fun H4 q4 kvs4 F4 d4 s4 hq4 hq5 dF4 hF4 hd4 => ?_⟩
      exact ⟨_, q4, kvs4, F4, d4, rfl, s3.trans s4, hq5, dF4, hF4, Cls.more rc hc hd4⟩
    rintro σ H3 ⟨v4, qi, kvs, F, c, rfl, s3, hq3, dF, hF, hc⟩
    rw [el] at hc
    have hp3 := s3 _ _ hp2
    -- len(set([..]))
    refine ⟨_, rfl, p, rfl, ⟨_, SqL.of hp3⟩, fun D hD => ?_⟩
    refine lc_list (K := K) (a := p) (xs := lN ks) (fun i H' => Same H3 H' ∧ H' D = some (.lst (lI ((ks.map c).take i)))) ⟨same_upd hD, upd_same⟩ (fun i H' _ ⟨s4, _⟩ => SqL.of (s4 _ _ hp3)) (fun i z H' hz ⟨s4, hD4⟩ => ?_) (fun H' ⟨s4, hD4⟩ => ?_)
    · obtain ⟨x, hx, rfl⟩ := lN_get hz
      have hil : i < ks.length := (List.getElem?_eq_some_iff.mp hx).1
      have g : DGet H' qi (.int (x : Int)) (some (.int (c x))) := by
        have g := dF.get (.inl (s4 _ _ hq3)) x
        rw [hF x (List.mem_of_getElem? hx)] at g
        exact g
      refine ⟨rfl, _, rfl, _, rfl, qi, _, rfl, g, _, hD4, ?_, same_into s4 hD, ?_⟩
      · unfold lI
        rw [List.length_map, List.length_take]
        exact size_lt (by omega)
      · rw [upd_same, lI_more (n := c x) (by rw [List.getElem?_map, hx]; rfl)]
    · rw [List.take_of_length_le (by rw [el, List.length_map]; exact Nat.le_refl _)] at hD4
      refine ⟨D, ks.map c, rfl, SqL.of hD4, by rw [List.length_map]; omega, fun out nd hm => ?_⟩
      have e := hc.count o rc (by omega) nd (fun z => by rw [hm, List.mem_map])
      rw [e]
      exact k H' (((s1.trans s2).trans s3).trans s4)
end
end Gt
/-! ## GtD14 -/
namespace Gt
open PySem PySem.Spec PyProof.Rows L2
open Rc89 (act next again since path)
/-! ### the table -/
/-- what stands beside the table and its list -/
def beside (G : Hp) (t lm : Addr) : Hp := del (del G t) lm
theorem beside_at {G : Hp} {t lm b : Addr} (h1 : b ≠ t) (h2 : b ≠ lm) : beside G t lm b = G b := by
  unfold beside
  rw [del_ne h2, del_ne h1]
theorem beside_in {G : Hp} {t lm b : Addr} {o : HO} (h : beside G t lm b = some o) : b ≠ t ∧ b ≠ lm ∧ G b = some o := by
  unfold beside at h
  have h2 : b ≠ lm := fun e => by rw [e, del_self] at h; cases h
  rw [del_ne h2] at h
  have h1 : b ≠ t := fun e => by rw [e, del_self] at h; cases h
  rw [del_ne h1] at h
  exact ⟨h1, h2, h⟩
def Row (CM : Addr) (G : Hp) (v : V) (A : Rc89.Machine) : Prop := (v = .non ∧ A = []) ∨ ∃ m, v = .ref m ∧ Ok A ∧ MachAt CM G m A
theorem Row.same {CM : Addr} {G G' : Hp} {v : V} {A : Rc89.Machine} (s : Same G G') (h : Row CM G v A) : Row CM G' v A := by
  rcases h with h | ⟨m, h1, h2, h3⟩
  · exact .inl h
  · exact .inr ⟨m, h1, h2, h3.same s⟩
structure TabIn (CM CP CT : Addr) (G : Hp) (t : Addr) (s : Rc89.Abs) (dx pp lm : Addr) (vs : List V) : Prop where
  tb : G t = some (.ins CT dx (f2 "pay" "machines" (.ref pp) (.ref lm)))
  li : G lm = some (.lst vs)
  pay : PayAt CP (beside G t lm) pp s.pay
  len : vs.length = 8
  len2 : s.machines.length = 8
  row : ∀ (i : Nat) (v : V) (A : Rc89.Machine), vs[i]? = some v → s.machines[i]? = some A → Row CM (beside G t lm) v A
def TableAt (CM CP CT : Addr) (G : Hp) (t : Addr) (s : Rc89.Abs) : Prop := ∃ dx pp lm vs, TabIn CM CP CT G t s dx pp lm vs
theorem beside_same {G H : Hp} {t lm : Addr} (s : Same G H) : Same (beside G t lm) (beside H t lm) := fun b o e => by
  obtain ⟨h1, h2, h3⟩ := beside_in e
  rw [beside_at h1 h2]
  exact s _ _ h3
theorem TabIn.same {CM CP CT : Addr} {G H : Hp} {t : Addr} {s : Rc89.Abs} {dx pp lm : Addr} {vs : List V} (e : Same G H) (h : TabIn CM CP CT G t s dx pp lm vs) : TabIn CM CP CT H t s dx pp lm vs :=
  ⟨e _ _ h.tb, e _ _ h.li, h.pay.same (beside_same e), h.len, h.len2, fun i v A q1 q2 => (h.row i v A q1 q2).same (beside_same e)⟩
theorem TableAt.same {CM CP CT : Addr} {G H : Hp} {t : Addr} {s : Rc89.Abs} (e : Same G H) (h : TableAt CM CP CT G t s) : TableAt CM CP CT H t s := by
  obtain ⟨dx, pp, lm, vs, h⟩ := h
  exact ⟨dx, pp, lm, vs, h.same e⟩
/-- what a call may have made of G -/
def gw (G H H' : Hp) : Hp := fun b => if (G b).isSome = true ∨ H b = none then H' b else none
theorem gw_at {G H H' : Hp} {b : Addr} (h : (G b).isSome = true ∨ H b = none) : gw G H H' b = H' b := if_pos h
theorem gw_in {G H H' : Hp} {b : Addr} {o : HO} (h : gw G H H' b = some o) : ((G b).isSome = true ∨ H b = none) ∧ H' b = some o := by
  by_cases c : (G b).isSome = true ∨ H b = none
  · exact ⟨c, by rw [gw_at c] at h; exact h⟩
  · unfold gw at h
    rw [if_neg c] at h
    cases h
theorem gw_same {G H H' : Hp} : Same (gw G H H') H' := fun b o e => (gw_in e).2
/-- what a call on the table at t leaves: G' of G -/
structure Left (G H H' G' : Hp) : Prop where
  sub : Same G' H'
  out : ∀ b o, H b = some o → G b = none → H' b = some o
  new : ∀ b o, G' b = some o → (G b).isSome = true ∨ H b = none
theorem Left.pure {G H H' : Hp} (s : Same G H) (e : Same H H') : Left G H H' G := ⟨s.trans e, fun b o h _ => e _ _ h, fun b o h => .inl (by rw [h]; rfl)⟩
theorem Left.gw {G H H' : Hp} (h : ∀ b o, H b = some o → G b = none → H' b = some o) : Left G H H' (gw G H H') := ⟨gw_same, h, fun b o e => (gw_in e).1⟩
section
variable {P : Program} {w : World} {K : PySem.W.Frag} {mg : Str → Option Value} {base : Heap} {CM CP CX CT : Addr}
theorem made_fresh {H : Hp} {x dx C b : Addr} (hx : H x = none) (h : b = x ∨ upd (upd H dx (.own x)) x (.ins C dx []) b = none) : H b = none := by
  rcases h with h | h
  · rw [h]; exact hx
  · by_cases c : b = x
    · rw [c]; exact hx
    · rw [upd_ne c] at h
      by_cases d : b = dx
      · rw [d, upd_same] at h; cases h
      · rw [upd_ne d] at h; exact h
/-! ### Table.__init__ -/
theorem none8 : (List.replicate (8 : Int).toNat [V.non]).flatten = List.replicate 8 V.non := by decide
theorem rep8_get {i : Nat} {v : V} (h : (List.replicate 8 V.non)[i]? = some v) : v = .non := by
  rw [List.getElem?_replicate] at h
  split at h
  · exact (Option.some.inj h).symm
  · cases h
theorem rep8_getM {i : Nat} {A : Rc89.Machine} (h : (List.replicate 8 ([] : Rc89.Machine))[i]? = some A) : A = [] := by
  rw [List.getElem?_replicate] at h
  split at h
  · exact (Option.some.inj h).symm
  · cases h
def spTInit (CM CP C : Addr) : Sp := fun vs H Q _ => ∃ (t dx : Addr), vs = [.ref t] ∧ H t = some (.ins C dx []) ∧ ∀ H' : Hp, TableAt CM CP C (nw H H' t) t {} → (∀ b o, H b = some o → b ≠ t → H' b = some o) → Q .non H'
theorem scTInit : FnScope ["self"] ["self"] (defScope sTInit) := ⟨rfl, rfl, rfl, by decide +kernel, rfl, by decide +kernel, by decide +kernel⟩
theorem ok_tinit {f fP : Addr} {fd fdP : FuncData} (F : Fun K "__init__" "Table.__init__" sTInit f fd) (T : Txt K mg CM CP CX CT) (GP : Nw P w K mg base CP "Pay" 1 ["self", "both", "given", "taken", "none"] (spPInit CP) fP fdP) : FnOk P w K mg base CX0 3 f fd ["self"] (spTInit CM CP CT) := by
  refine F.ok scTInit (fun vs H Q E h => ?_) (fun cdv Ar outer s H vs Q E hr h => ?_)
  · obtain ⟨t, dx, rfl, _⟩ := h
    rfl
  · obtain ⟨t, dx, rfl, ht, k⟩ := h
    obtain ⟨tk, cM⟩ := T.cMach
    refine ⟨_, pss_cons (ps_fld (pv 0) (pe_make GP.mc GP.ok hr (by rfl) GP.mg GP.b .nil pass0 (pa_cons pe_int (pa_cons pe_int (pa_cons pe_int (pa_cons pe_int pa_nil))))) rfl)
      (pss_one (ps_fld (pv 0) (pe_op op_rep (pe_lst (pa_cons pe_non pa_nil)) (pe_glob (v := .int 8) (by rfl) cM ⟨_, rfl⟩)) rfl)), ?_⟩
    refine fun x dp hx hdp ne => ⟨x, dp, 3, 0, 5, 1, rfl, upd_same, fun H1 pa k1 => ⟨rfl, ?_⟩⟩
    have s1 : Same H H1 := Same.made hx hdp k1
    refine ⟨_, rfl, t, CT, dx, [], rfl, s1 _ _ ht, T.clT, T.nP, (by show 0 < 1000; decide), ?_⟩
    generalize hH2 : upd H1 t (.ins CT dx (putF "pay" (.ref x) [])) = H2
    have ht2 : H2 t = some (.ins CT dx (f1 "pay" (.ref x))) := by rw [← hH2]; exact upd_same
    have k2 : ∀ b o, H1 b = some o → b ≠ t → H2 b = some o := fun b o e hb => by rw [← hH2, upd_ne hb]; exact e
    refine ⟨(by show 1 ≤ sizeLine; decide), fun l hl => ⟨l, 8, _, rfl, rfl, upd_same, by decide, by decide, (by show 1 * 8 ≤ sizeLine; decide), fun lm hlm => ?_⟩⟩
    rw [none8]
    have hlm2 : H2 lm = none := (same_upd hl).free hlm
    have nlt : t ≠ lm := ne_of_none ht2 hlm2
    have nlt' : t ≠ l := ne_of_none ht2 hl
    have hlmH : H lm = none := by
      cases q : H lm with
      | none => rfl
      | some ob => rw [k2 _ _ (s1 _ _ q) (fun e => nlt e.symm)] at hlm2; cases hlm2
    refine ⟨_, rfl, t, CT, dx, _, rfl, by rw [upd_ne nlt, upd_ne nlt']; exact ht2, T.clT, T.nMs, (by show 1 < 1000; decide), ?_⟩
    rw [f2_new (by decide +kernel)]
    generalize hH3 : upd (upd (upd H2 l (.lst [V.non])) lm (.lst (List.replicate 8 V.non))) t (.ins CT dx (f2 "pay" "machines" (.ref x) (.ref lm))) = H3
    have k3 : ∀ b o, H2 b = some o → b ≠ t → H3 b = some o := fun b o e hb => by
      rw [← hH3, upd_ne hb, upd_ne (ne_of_none e hlm2), upd_ne (ne_of_none e hl)]; exact e
    refine k H3 ⟨dx, x, lm, List.replicate 8 V.non, ?_, ?_, ?_, rfl, rfl, ?_⟩ fun b o e hb => k3 _ _ (k2 _ _ (s1 _ _ e) hb) hb
    · rw [nw_at (.inl rfl), ← hH3]; exact upd_same
    · rw [nw_at (.inr hlmH), ← hH3, upd_ne (fun e => nlt e.symm)]; exact upd_same
    · refine pa.same fun b o e => ?_
      obtain ⟨e1, e2⟩ := nw_in e
      have e3 := made_fresh hx e1
      have nbt : b ≠ t := fun q => by rw [q, ht] at e3; cases e3
      have e4 := k3 _ _ (k2 _ _ e2 nbt) nbt
      have nbl : b ≠ lm := fun q => by
        have := k2 _ _ e2 nbt
        rw [q, hlm2] at this
        cases this
      rw [beside_at nbt nbl, nw_at (.inr e3)]
      exact e4
    · intro i v A q1 q2
      exact .inl ⟨rep8_get q1, rep8_getM q2⟩
end
end Gt
/-! ## GtD15 -/
namespace Gt
open PySem PySem.Spec PyProof.Rows L2
open Rc89 (act next again since path)
/-- the pay's new part lies beside the table -/
theorem pay_beside {CP t lm x dp C : Addr} {G H H1 H' : Hp} {g : Rc89.Pay} (hx : H x = none) (pa : PayAt CP (nw (upd (upd H dp (.own x)) x (.ins C dp [])) H1 x) x g) (k : ∀ b o, H1 b = some o → H b = none → H' b = some o) (ht : (H t).isSome = true) (hl : ∀ o, H1 lm = some o → (H lm).isSome = true) : PayAt CP (beside (gw G H H') t lm) x g := by
  refine pa.same fun b o e => ?_
  obtain ⟨e1, e2⟩ := nw_in e
  have e3 := made_fresh hx e1
  have nbt : b ≠ t := fun q => by rw [← q, e3] at ht; cases ht
  have nbl : b ≠ lm := fun q => by
    subst q
    have := hl _ e2
    rw [e3] at this
    cases this
  rw [beside_at nbt nbl, gw_at (.inr e3)]
  exact k _ _ e2 e3
/-- the elder ones stay beside it -/
theorem beside_old {G H H' : Hp} {t lm lm' : Addr} (s : Same G H) (k : ∀ b o, H b = some o → b ≠ t → b ≠ lm → H' b = some o) (hn : lm' = lm ∨ H lm' = none) : Same (beside G t lm) (beside (gw G H H') t lm') := fun b o e => by
  obtain ⟨h1, h2, h3⟩ := beside_in e
  have h4 := s _ _ h3
  have h5 : b ≠ lm' := fun q => by
    rcases hn with z | z
    · exact h2 (q.trans z)
    · rw [← q, h4] at z; cases z
  rw [beside_at h1 h5, gw_at (.inl (by rw [h3]; rfl))]
  exact k _ _ h4 h1 h2
section
variable {P : Program} {w : World} {K : PySem.W.Frag} {mg : Str → Option Value} {base : Heap} {CM CP CX CT : Addr}
/-! ### Table.set_pay -/
def bad (z : Int) : Bool := decide (1000 < (if z < 0 then -z else z))
theorem bad_iff (z : Int) : bad z = !Rc89.between z (-1000) 1000 := by
  unfold bad Rc89.between
  rw [Bool.eq_iff_iff, decide_eq_true_eq, Bool.not_eq_true', Bool.and_eq_false_iff, decide_eq_false_iff_not, decide_eq_false_iff_not]
  split <;> omega
def rAbs : List V → Hp → VK → Prop := fun xs H Q => ∃ i, xs = [.int i] ∧ Q (.int (if i < 0 then -i else i)) H
def spSetPay (K : PySem.W.Frag) (CM CP C : Addr) : Sp := fun vs H Q _ => ∃ (t nl : Addr) (a b c d : Int) (s : Rc89.Abs) (G : Hp), vs = [.ref t, .ref nl] ∧ SqL K H nl (lI [a, b, c, d]) ∧ Same G H ∧ TableAt CM CP C G t s ∧
  ∀ (H' : Hp) (r : Addr) (G' : Hp), Left G H H' G' → TableAt CM CP C G' t (Rc89.does s (.pay a b c d)).1 → H' r = some (.lst (lI (ans (Rc89.does s (.pay a b c d)).2))) → H r = none → Q (.ref r) H'
theorem scSetPay : FnScope ["self", "numbers", "number"] ["self", "numbers"] (defScope sSetPay) := ⟨rfl, rfl, rfl, by decide +kernel, rfl, by decide +kernel, by decide +kernel⟩
theorem ok_setpay {f fP : Addr} {fd fdP : FuncData} (F : Fun K "set_pay" "Table.set_pay" sSetPay f fd) (T : Txt K mg CM CP CX CT) (GP : Nw P w K mg base CP "Pay" 1 ["self", "both", "given", "taken", "none"] (spPInit CP) fP fdP) :
    FnOk P w K mg base CX0 3 f fd ["self", "numbers"] (spSetPay K CM CP CT) := by
  refine F.ok scSetPay (fun vs H Q E h => ?_) (fun cdv Ar outer s H vs Q E hr h => ?_)
  · obtain ⟨t, nl, a, b, c, d, s, G, rfl, _⟩ := h
    rfl
  · obtain ⟨t, nl, a, b, c, d, s, G, rfl, hnl, sG, hT, k⟩ := h
    obtain ⟨tk, cP⟩ := T.cPay
    obtain ⟨tk2, cR⟩ := T.cRef
    refine ⟨_, pss_cons (ps_if (pt_cmpR (op_neD hr.units) (pe_lc (own := [("number", 2)]) (g := gName 2) (tt := tTest (tOp (rI0 fun i j => .bl (decide (j < i))) (tCB rAbs (tCons (tVar 2) tNil)) (tC (.int 1000)))) (te := tVar 2) (by rfl) scSetPay.nd (pi_list (pv 1))
          (blkOk_by (own := [("number", 2)]) (N := ["self", "numbers", "number"]) (sc := defScope sSetPay) (by decide +kernel)) (fun _ _ _ _ _ => pg_name (i := 2) scSetPay.nd rfl (Or.inl rfl))
          (fun _ _ _ _ _ => pts_one (pt_cmpR op_gt (pe_callB call_abs (by rfl) T.abs (by decide +kernel) (pa_cons (pv 2) pa_nil)) (pe_glob (v := .int 1000) (by rfl) cP ⟨_, rfl⟩) (nomark _))) (fun _ _ _ _ _ => pv 2)) (pe_lst pa_nil) (nomark _))
        (pss_one (ps_ret (pe_lst (pa_cons (pe_glob (v := .int (-1)) (by rfl) cR ⟨_, rfl⟩) pa_nil)))) pss_nil)
      (pss_cons (ps_fld (pv 0) (pe_make GP.mc GP.ok hr (by rfl) GP.mg GP.b .nil pass0 (pa_cons (pe_ix ix_list (pv 1) pe_int (fun _ _ => rfl)) (pa_cons (pe_ix ix_list (pv 1) pe_int (fun _ _ => rfl)) (pa_cons (pe_ix ix_list (pv 1) pe_int (fun _ _ => rfl)) (pa_cons (pe_ix ix_list (pv 1) pe_int (fun _ _ => rfl)) pa_nil))))) rfl)
      (pss_one (ps_ret (pe_lst (pa_cons pe_int pa_nil))))), ?_⟩
    refine ⟨_, rfl, nl, rfl, ⟨_, hnl⟩, fun D hD => ?_⟩
    refine lc_list (K := K) (a := nl) (xs := lI [a, b, c, d]) (fun i H' => Same H H' ∧ H' D = some (.lst (lI (([a, b, c, d].take i).filter bad)))) ⟨same_upd hD, upd_same⟩ (fun i H' _ ⟨s1, _⟩ => s1.seq hnl) (fun i y H' hy ⟨s1, hD1⟩ => ?_) (fun H' ⟨s1, hD1⟩ => ?_)
    · obtain ⟨z, hz, rfl⟩ := lI_get hy
      have hil : i < 4 := (List.getElem?_eq_some_iff.mp hz).1
      refine ⟨rfl, _, rfl, z, rfl, _, _, rfl, rfl, _, rfl, ?_⟩
      have ef : ([a, b, c, d].take (i + 1)).filter bad = ([a, b, c, d].take i).filter bad ++ (if bad z = true then [z] else []) := by
        rw [take_more hz, List.filter_append, List.filter_cons, List.filter_nil]
      refine itd (fun cz => ?_) (fun cz => ?_)
      · have e : bad z = true := decide_eq_true cz
        rw [if_pos e] at ef
        refine ⟨_, rfl, _, hD1, ?_, same_into s1 hD, ?_⟩
        · unfold lI
          rw [List.length_map]
          refine Nat.lt_of_le_of_lt (List.length_filter_le _ _) ?_
          rw [List.length_take]
          exact size_lt (by omega)
        · rw [upd_same, ef, lI_app]
          rfl
      · have e : ¬ bad z = true := fun q => cz (of_decide_eq_true q)
        rw [if_neg e, List.append_nil] at ef
        rw [ef]
        exact ⟨s1, hD1⟩
    · have hD2 : H' D = some (.lst (lI ([a, b, c, d].filter bad))) := hD1
      refine ⟨Nat.zero_le _, fun z hz => ne_nil_ints hD2 hz ⟨_, rfl, ?_⟩⟩
      generalize hH2 : upd H' z (.lst []) = H2
      have s2 : Same H H2 := by rw [← hH2]; exact same_into s1 (s1.free hz)
      have hg : ([a, b, c, d].filter bad).isEmpty = (Rc89.between a (-1000) 1000 && (Rc89.between b (-1000) 1000 && (Rc89.between c (-1000) 1000 && Rc89.between d (-1000) 1000))) := by
        simp only [List.filter_cons, List.filter_nil, bad_iff]
        cases Rc89.between a (-1000) 1000 <;> cases Rc89.between b (-1000) 1000 <;> cases Rc89.between c (-1000) 1000 <;> cases Rc89.between d (-1000) 1000 <;> rfl
      rw [hg]
      cases eb : (Rc89.between a (-1000) 1000 && (Rc89.between b (-1000) 1000 && (Rc89.between c (-1000) 1000 && Rc89.between d (-1000) 1000))) with
      | false =>
        refine iteT ?_
        have ed : Rc89.does s (.pay a b c d) = (s, Rc89.refused) := if_pos eb
        rw [ed] at k
        refine ⟨(by show 1 ≤ sizeLine; decide), fun r hr' => k _ r G (Left.pure sG (same_into s2 (s2.free hr'))) hT upd_same (s2.free hr')⟩
      | true =>
        refine iteF ?_
        have ed : Rc89.does s (.pay a b c d) = ({ s with pay := ⟨a, b, c, d⟩ }, { value := 0 }) := if_neg (by rw [eb]; decide)
        rw [ed] at k
        have hq := s2.seq hnl
        refine ⟨_, rfl, nl, _, 0, _, rfl, rfl, hq, atI_nat (j := 0) rfl, _, rfl, nl, _, 1, _, rfl, rfl, hq, atI_nat (j := 1) rfl, _, rfl, nl, _, 2, _, rfl, rfl, hq, atI_nat (j := 2) rfl, _, rfl, nl, _, 3, _, rfl, rfl, hq, atI_nat (j := 3) rfl,
          fun x dp hx hdp ne => ⟨x, dp, a, b, c, d, rfl, upd_same, fun H3 pa k3 => ⟨rfl, ?_⟩⟩⟩
        have s23 : Same H2 H3 := Same.made hx hdp k3
        have s3 : Same H H3 := s2.trans s23
        obtain ⟨dx, pp, lm, vs, tab⟩ := hT
        have ht3 := s3 _ _ (sG _ _ tab.tb)
        refine ⟨_, rfl, t, CT, dx, _, rfl, ht3, T.clT, T.nP, (by show 2 < 1000; decide), ?_⟩
        rw [f2_put1]
        generalize hH4 : upd H3 t (.ins CT dx (f2 "pay" "machines" (.ref x) (.ref lm))) = H4
        have k4 : ∀ b o, H3 b = some o → b ≠ t → H4 b = some o := fun b o e hb => by rw [← hH4, upd_ne hb]; exact e
        refine ⟨(by show 1 ≤ sizeLine; decide), fun r hr' => ?_⟩
        have hr3 : H3 r = none := by
          cases q : H3 r with
          | none => rfl
          | some ob =>
            by_cases c' : r = t
            · rw [c', ← hH4, upd_same] at hr'; cases hr'
            · rw [k4 _ _ q c'] at hr'; cases hr'
        generalize hH5 : upd H4 r (.lst [V.int 0]) = H5
        have k5 : ∀ b o, H3 b = some o → b ≠ t → H5 b = some o := fun b o e hb => by
          rw [← hH5, upd_ne (ne_of_none e hr3)]
          exact k4 _ _ e hb
        have hGt : G t ≠ none := fun q => by rw [tab.tb] at q; cases q
        have nlt : lm ≠ t := fun q => by have z := tab.li; rw [q, tab.tb] at z; cases z
        refine k H5 r (gw G H H5) (Left.gw fun b o e hb => k5 _ _ (s3 _ _ e) (fun q => hGt (by rw [← q]; exact hb))) ⟨dx, x, lm, vs, ?_, ?_, ?_, tab.len, tab.len2, fun i v A q1 q2 => (tab.row i v A q1 q2).same (beside_old sG (fun b o e h1 _ => k5 _ _ (s3 _ _ e) h1) (.inl rfl))⟩ (by rw [← hH5]; exact upd_same) (s3.free hr3)
        · rw [gw_at (.inl (by rw [tab.tb]; rfl)), ← hH5, upd_ne (fun q => by rw [← q, ht3] at hr3; cases hr3), ← hH4]
          exact upd_same
        · rw [gw_at (.inl (by rw [tab.li]; rfl))]
          exact k5 _ _ (s3 _ _ (sG _ _ tab.li)) nlt
        · have hx0 : H x = none := s2.free hx
          refine pa.same fun b o e => ?_
          obtain ⟨e1, e2⟩ := nw_in e
          have e3 : H b = none := s2.free (made_fresh hx e1)
          have nbt : b ≠ t := fun q => by rw [q, sG _ _ tab.tb] at e3; cases e3
          have nbl : b ≠ lm := fun q => by rw [q, sG _ _ tab.li] at e3; cases e3
          rw [beside_at nbt nbl, gw_at (.inr e3)]
          exact k5 _ _ e2 nbt
end
end Gt
/-! ## GtD16 -/
namespace Gt
open PySem PySem.Spec PyProof.Rows L2
open Rc89 (act next again since path)
section
variable {P : Program} {w : World} {K : PySem.W.Frag} {mg : Str → Option Value} {base : Heap} {CM CP CX CT : Addr}
/-! ### Table.machine -/
def mach (i : Int) (ss : List Int) : Rc89.Call := .machine i (ss.map Int.toNat) ss.length
theorem does_mach_no {s : Rc89.Abs} {i : Int} {ss : List Int} (h : ¬ (0 ≤ i ∧ i < 8 ∧ ss.length % 3 = 0 ∧ Rc89.fine (Rc89.told (ss.map Int.toNat)) = true)) : Rc89.does s (mach i ss) = (s, Rc89.refused) := by
  refine if_pos ?_
  cases e : (Rc89.below i Rc89.PLACES && (Rc89.between (ss.length : Int) 3 48 && ((ss.length : Int).toNat % 3 == 0 && ((ss.map Int.toNat).length == (ss.length : Int).toNat && Rc89.fine (Rc89.told (ss.map Int.toNat)))))) with
  | false => rfl
  | true =>
    exfalso
    rw [Bool.and_eq_true, Bool.and_eq_true, Bool.and_eq_true, Bool.and_eq_true] at e
    obtain ⟨e1, e2, e3, e4, e5⟩ := e
    unfold Rc89.below Rc89.PLACES at e1
    rw [Bool.and_eq_true, decide_eq_true_eq, decide_eq_true_eq] at e1
    have e3 := eq_of_beq e3
    exact h ⟨e1.1, e1.2, by rw [Int.toNat_natCast] at e3; exact e3, e5⟩
theorem does_mach_yes {s : Rc89.Abs} {i : Int} {ss : List Int} (h0 : 0 ≤ i) (h1 : i < 8) (h2 : ss.length % 3 = 0) (h3 : Rc89.fine (Rc89.told (ss.map Int.toNat)) = true) (h4 : ss.length ≤ 48) :
    Rc89.does s (mach i ss) = ({ s with machines := s.machines.set i.toNat (Rc89.told (ss.map Int.toNat)) }, { value := ((Rc89.told (ss.map Int.toNat)).length : Nat) }) := by
  refine if_neg ?_
  have hf := (fine_iff _).mp h3
  rw [List.length_map] at hf
  have e : (Rc89.below i Rc89.PLACES && (Rc89.between (ss.length : Int) 3 48 && ((ss.length : Int).toNat % 3 == 0 && ((ss.map Int.toNat).length == (ss.length : Int).toNat && Rc89.fine (Rc89.told (ss.map Int.toNat)))))) = true := by
    rw [Bool.and_eq_true, Bool.and_eq_true, Bool.and_eq_true, Bool.and_eq_true]
    refine ⟨?_, ?_, ?_, ?_, h3⟩
    · unfold Rc89.below Rc89.PLACES
      rw [Bool.and_eq_true, decide_eq_true_eq, decide_eq_true_eq]
      exact ⟨h0, h1⟩
    · unfold Rc89.between
      rw [Bool.and_eq_true, decide_eq_true_eq, decide_eq_true_eq]
      omega
    · rw [Int.toNat_natCast, h2]; rfl
    · rw [Int.toNat_natCast, List.length_map]; exact beq_self_eq_true _
  rw [e]
  decide
def spMachine (K : PySem.W.Frag) (CM CP C : Addr) : Sp := fun vs H Q _ => ∃ (t sl : Addr) (i : Int) (ss : List Int) (s : Rc89.Abs) (G : Hp), vs = [.ref t, .int i, .ref sl] ∧ SqL K H sl (lI ss) ∧ (∀ z ∈ ss, 0 ≤ z ∧ z ≤ 255) ∧ ss.length ≤ 48 ∧ Same G H ∧ TableAt CM CP C G t s ∧
  ∀ (H' : Hp) (r : Addr) (G' : Hp), Left G H H' G' → TableAt CM CP C G' t (Rc89.does s (mach i ss)).1 → H' r = some (.lst (lI (ans (Rc89.does s (mach i ss)).2))) → H r = none → Q (.ref r) H'
theorem scMachine : FnScope ["self", "which", "states"] ["self", "which", "states"] (defScope sMachine) := ⟨rfl, rfl, rfl, by decide +kernel, rfl, by decide +kernel, by decide +kernel⟩
theorem ok_machine {f fB fI fN : Addr} {fd fdB fdI fdN : FuncData} (F : Fun K "machine" "Table.machine" sMachine f fd) (T : Txt K mg CM CP CX CT) (GB : Df P w K mg base "may_be" 1 ["states"] (spMayBe K) fB fdB)
    (GI : Nw P w K mg base CM "Machine" 1 ["self", "states"] (spMInit K CM) fI fdI) (GN : Md P w K mg base CM "many" 1 ["self"] (spMany CM) fN fdN) : FnOk P w K mg base CX0 3 f fd ["self", "which", "states"] (spMachine K CM CP CT) := by
  refine F.ok scMachine (fun vs H Q E h => ?_) (fun cdv Ar outer s H vs Q E hr h => ?_)
  · obtain ⟨t, sl, i, ss, s, G, rfl, _⟩ := h
    rfl
  · obtain ⟨t, sl, i, ss, s, G, rfl, hsl, nn, hl, sG, hT, k⟩ := h
    obtain ⟨tk, cM⟩ := T.cMach
    obtain ⟨tk2, cR⟩ := T.cRef
    have hr1 : Room 1 _ := hr.mono (by decide)
    refine ⟨_, pss_cons (ps_if (PW.pt (pw_or (pt_cmpR op_lt (pv 1) pe_int (nomark _)) (pw_or (pt_cmpR op_ge (pv 1) (pe_glob (v := .int 8) (by rfl) cM ⟨_, rfl⟩) (nomark _)) (pw_or1 (pt_not (pt_val (pe_call GB.ok hr1 (by rfl) GB.mg GB.kp GB.b .nil pass0 (pa_cons (pv 2) pa_nil))))))))
        (pss_one (ps_ret (pe_lst (pa_cons (pe_glob (v := .int (-1)) (by rfl) cR ⟨_, rfl⟩) pa_nil)))) pss_nil)
      (pss_cons (ps_asg (pe_make GI.mc GI.ok hr (by rfl) GI.mg GI.b .nil pass0 (pa_cons (pv 2) pa_nil)) (pg_sub (pe_fld (pv 0) rfl) (pv 1) set_list))
      (pss_one (ps_ret (pe_lst (pa_cons (pe_meth0 (pe_ix ix_list (pe_fld (pv 0) rfl) (pv 1) (fun _ _ => rfl)) T.clM GN.m GN.ok hr1 GN.b .nil pass0) pa_nil))))), ?_⟩
    have refuse : ∀ {c : Prop}, c → (c → ¬ (0 ≤ i ∧ i < 8 ∧ ss.length % 3 = 0 ∧ Rc89.fine (Rc89.told (ss.map Int.toNat)) = true)) → (([V.int (-1)] : List V).length ≤ sizeLine ∧ ∀ p, H p = none → Q (.ref p) (upd H p (.lst [V.int (-1)]))) := by
      intro c hc h
      have ed := does_mach_no (s := s) (h hc)
      rw [ed] at k
      exact ⟨(by show 1 ≤ sizeLine; decide), fun r hr' => k _ r G (Left.pure sG (same_upd hr')) hT upd_same hr'⟩
    refine ⟨_, rfl, _, _, rfl, rfl, _, rfl, ?_⟩
    refine itd (fun c => ?_) (fun c1 => ?_)
    · exact iteT (refuse c fun c h => by omega)
    refine ⟨_, rfl, _, _, rfl, rfl, _, rfl, ?_⟩
    refine itd (fun c => ?_) (fun c2 => ?_)
    · exact iteT (refuse c fun c h => by omega)
    refine ⟨_, rfl, sl, ss, rfl, hsl, nn, hl, _, rfl, ?_⟩
    cases em : (decide (ss.length % 3 = 0) && Rc89.fine (Rc89.told (ss.map Int.toNat))) with
    | false =>
      exact iteT (refuse em fun e h => by
        have : (decide (ss.length % 3 = 0) && Rc89.fine (Rc89.told (ss.map Int.toNat))) = true := by rw [Bool.and_eq_true, decide_eq_true_eq]; exact ⟨h.2.2.1, h.2.2.2⟩
        rw [this] at e
        cases e)
    | true =>
      refine iteF ?_
      rw [Bool.and_eq_true, decide_eq_true_eq] at em
      have i0 : 0 ≤ i := by omega
      have i8 : i < 8 := by omega
      have ed := does_mach_yes (s := s) i0 i8 em.1 em.2 hl
      rw [ed] at k
      refine ⟨_, rfl, fun x dp hx hdp ne => ⟨x, dp, sl, ss, rfl, upd_same, ?_, nn, hl, fun H3 ma k3 => ⟨rfl, ?_⟩⟩⟩
      · have s1 : Same H (upd (upd H dp (.own x)) x (.ins CM dp [])) := same_into (same_into (Same.refl H) hdp) hx
        exact s1.seq hsl
      have s3 : Same H H3 := Same.made hx hdp k3
      obtain ⟨dx, pp, lm, vs, tab⟩ := hT
      have ht3 := s3 _ _ (sG _ _ tab.tb)
      have hl3 := s3 _ _ (sG _ _ tab.li)
      obtain ⟨n, rfl⟩ : ∃ n : Nat, i = (n : Int) := ⟨i.toNat, by omega⟩
      have n8 : n < 8 := by omega
      have nlt : lm ≠ t := fun q => by have z := tab.li; rw [q, tab.tb] at z; cases z
      refine ⟨_, rfl, t, CT, dx, _, _, rfl, ht3, T.clT, T.nMs, f2_snd (by decide +kernel), _, rfl, lm, vs, _, n, rfl, rfl, hl3, ?_, ?_⟩
      · unfold ixN
        rw [if_pos (by omega), if_pos (by rw [tab.len]; omega), Int.toNat_natCast]
      generalize hH4 : upd H3 lm (.lst (vs.set n (.ref x))) = H4
      have k4 : ∀ b o, H3 b = some o → b ≠ lm → H4 b = some o := fun b o e hb => by rw [← hH4, upd_ne hb]; exact e
      have ht4 := k4 _ _ ht3 (fun q => nlt q.symm)
      have hl4 : H4 lm = some (.lst (vs.set n (.ref x))) := by rw [← hH4]; exact upd_same
      have hat : (vs.set n (V.ref x))[n]? = some (V.ref x) := List.getElem?_set_self (by rw [tab.len]; exact n8)
      -- the new machine, where it lies
      have hfr : ∀ b o, nw (upd (upd H dp (.own x)) x (.ins CM dp [])) H3 x b = some o → H b = none ∧ H3 b = some o := fun b o e => by
        obtain ⟨e1, e2⟩ := nw_in e
        exact ⟨made_fresh hx e1, e2⟩
      have ma4 : MachAt CM H4 x (Rc89.told (ss.map Int.toNat)) := ma.same fun b o e => by
        obtain ⟨e1, e2⟩ := hfr b o e
        exact k4 _ _ e2 (fun q => by rw [q, sG _ _ tab.li] at e1; cases e1)
      obtain ⟨dm, ld, ln, ts, g1, g2, g3, g4, g5⟩ := ma4
      refine ⟨_, rfl, t, CT, dx, _, _, rfl, ht4, T.clT, T.nMs, f2_snd (by decide +kernel), _, rfl, lm, _, _, _, rfl, rfl, SqL.of hl4, atI_nat hat, x, dm, _, rfl, g1, f2_no (by decide +kernel) (by decide +kernel), x, _, rfl, ⟨dm, ld, ln, ts, g1, g2, g3, g4, g5⟩, (by show 1 ≤ sizeLine; decide), fun r hr' => ?_⟩
      have hr3 : H3 r = none := by
        cases q : H3 r with
        | none => rfl
        | some ob =>
          by_cases c' : r = lm
          · rw [c', hl4] at hr'; cases hr'
          · rw [k4 _ _ q c'] at hr'; cases hr'
      generalize hH5 : upd H4 r (.lst [V.int ((Rc89.told (ss.map Int.toNat)).length : Nat)]) = H5
      have k5 : ∀ b o, H3 b = some o → b ≠ lm → H5 b = some o := fun b o e hb => by
        rw [← hH5, upd_ne (ne_of_none e hr3)]
        exact k4 _ _ e hb
      have hGl : G lm ≠ none := fun q => by rw [tab.li] at q; cases q
      have old : Same (beside G t lm) (beside (gw G H H5) t lm) := beside_old sG (fun b o e _ h2 => k5 _ _ (s3 _ _ e) h2) (.inl rfl)
      refine k H5 r (gw G H H5) (Left.gw fun b o e hb => k5 _ _ (s3 _ _ e) (fun q => hGl (by rw [← q]; exact hb))) ⟨dx, pp, lm, vs.set n (.ref x), ?_, ?_, tab.pay.same old, by rw [List.length_set]; exact tab.len, by show (s.machines.set _ _).length = 8; rw [List.length_set]; exact tab.len2, fun j v A q1 q2 => ?_⟩ (by rw [← hH5]; exact upd_same) (s3.free hr3)
      · rw [gw_at (.inl (by rw [tab.tb]; rfl))]
        exact k5 _ _ ht3 (fun q => nlt q.symm)
      · rw [gw_at (.inl (by rw [tab.li]; rfl)), ← hH5, upd_ne (fun q => by rw [← q, hl3] at hr3; cases hr3)]
        exact hl4
      · have q2 : (s.machines.set n (Rc89.told (ss.map Int.toNat)))[j]? = some A := by
          have z : ((n : Int)).toNat = n := Int.toNat_natCast n
          have q2 : (s.machines.set ((n : Int)).toNat (Rc89.told (ss.map Int.toNat)))[j]? = some A := q2
          rw [z] at q2
          exact q2
        by_cases cj : j = n
        · subst cj
          rw [hat] at q1
          rw [List.getElem?_set_self (by rw [tab.len2]; exact n8)] at q2
          have q1 := Option.some.inj q1
          have q2 := Option.some.inj q2
          subst q1 q2
          refine .inr ⟨x, rfl, ok_of_fine em.2, ma.same fun b o e => ?_⟩
          obtain ⟨e1, e2⟩ := hfr b o e
          have nbt : b ≠ t := fun q => by rw [q, sG _ _ tab.tb] at e1; cases e1
          have nbl : b ≠ lm := fun q => by rw [q, sG _ _ tab.li] at e1; cases e1
          rw [beside_at nbt nbl, gw_at (.inr e1)]
          exact k5 _ _ e2 nbl
        · rw [List.getElem?_set_ne (fun z => cj z.symm)] at q1
          rw [List.getElem?_set_ne (fun z => cj z.symm)] at q2
          exact (tab.row j v A q1 q2).same old
end
end Gt
/-! ## GtD17 -/
namespace Gt
open PySem PySem.Spec PyProof.Rows L2
open Rc89 (act next again since path)
section
variable {P : Program} {w : World} {K : PySem.W.Frag} {mg : Str → Option Value} {base : Heap} {CM CP CX CT : Addr}
/-! ### Table.refusal -/
def refu (s : Rc89.Abs) (l : List Int) : Int := if l.all (fun i => Rc89.below i 8) = false then -1 else if l.all (fun i => Rc89.there s i) = false then -4 else 0
theorem below_iff (i : Int) : Rc89.below i 8 = true ↔ 0 ≤ i ∧ i < 8 := by
  unfold Rc89.below
  rw [Bool.and_eq_true, decide_eq_true_eq, decide_eq_true_eq]
  exact Iff.rfl
/-- what stands at a place of the table -/
theorem TabIn.at {G : Hp} {t : Addr} {s : Rc89.Abs} {dx pp lm : Addr} {vs : List V} (h : TabIn CM CP CT G t s dx pp lm vs) {i : Int} (hi : Rc89.below i 8 = true) : ∃ (n : Nat) (v : V), i = (n : Int) ∧ vs[n]? = some v ∧ Row CM (beside G t lm) v (Rc89.machine s i) ∧ decide (v = .non) = !Rc89.there s i := by
  obtain ⟨h0, h8⟩ := (below_iff i).mp hi
  refine ⟨i.toNat, vs[i.toNat]'(by rw [h.len]; omega), by omega, List.getElem?_eq_getElem (by rw [h.len]; omega), ?_⟩
  have e : s.machines[i.toNat]? = some (Rc89.machine s i) := by
    unfold Rc89.machine
    rw [List.getD_eq_getElem?_getD, List.getElem?_eq_getElem (by rw [h.len2]; omega)]
    rfl
  have r := h.row i.toNat _ _ (List.getElem?_eq_getElem (by rw [h.len]; omega)) e
  refine ⟨r, ?_⟩
  unfold Rc89.there
  rcases r with ⟨r1, r2⟩ | ⟨m, r1, r2, r3⟩
  · rw [r1, r2]; rfl
  · rw [r1]
    have ne : Rc89.machine s i ≠ [] := fun q => by
      have := r2.pos
      rw [q] at this
      exact absurd this (by decide)
    have : (Rc89.machine s i != []) = true := by
      rw [bne_iff_ne]
      exact ne
    rw [this]
    rfl
def spRefusal (K : PySem.W.Frag) (CM CP C : Addr) : Sp := fun vs H Q _ => ∃ (t so : Addr) (l : List Int) (s : Rc89.Abs), vs = [.ref t, .ref so] ∧ SqL K H so (lI l) ∧ l.length ≤ 1000 ∧ TableAt CM CP C H t s ∧ ∀ H' : Hp, Same H H' → Q (.int (refu s l)) H'
theorem scRefusal : FnScope ["self", "some", "which"] ["self", "some"] (defScope sRefusal) := ⟨rfl, rfl, rfl, by decide +kernel, rfl, by decide +kernel, by decide +kernel⟩
theorem ok_refusal {f : Addr} {fd : FuncData} (F : Fun K "refusal" "Table.refusal" sRefusal f fd) (T : Txt K mg CM CP CX CT) : FnOk P w K mg base CX0 1 f fd ["self", "some"] (spRefusal K CM CP CT) := by
  refine F.ok scRefusal (fun vs H Q E h => ?_) (fun cdv Ar outer s H vs Q E hr h => ?_)
  · obtain ⟨t, so, l, s, rfl, _⟩ := h
    rfl
  · obtain ⟨t, so, l, s, rfl, hso, hl, ⟨dx, pp, lm, ws, tab⟩, k⟩ := h
    obtain ⟨tk, cM⟩ := T.cMach
    obtain ⟨tk2, cR⟩ := T.cRef
    obtain ⟨tk3, cN⟩ := T.cNot
    refine ⟨_, pss_cons (ps_for PassesOwn.never rfl (pi_list (pv 1)) (pg_name (i := 2) scRefusal.nd rfl (Or.inl rfl))
        (pss_one (ps_if (PW.pt (pw_or (pt_cmpR op_lt (pv 2) pe_int (nomark _)) (pw_or1 (pt_cmpR op_ge (pv 2) (pe_glob (v := .int 8) (by rfl) cM ⟨_, rfl⟩) (nomark _))))) (pss_one (ps_ret (pe_glob (v := .int (-1)) (by rfl) cR ⟨_, rfl⟩))) pss_nil)))
      (pss_cons (ps_if (pt_cmpR (op_neD hr.units) (pe_lc (own := [("which", 2)]) (g := gName 2) (tt := tB (tIsN (tOp (rIxL K) (tFld K (tVar 0) "machines") (tVar 2)))) (te := tVar 2) (by rfl) scRefusal.nd (pi_list (pv 1))
          (blkOk_by (own := [("which", 2)]) (N := ["self", "some", "which"]) (sc := defScope sRefusal) (by decide +kernel)) (fun _ _ _ _ _ => pg_name (i := 2) scRefusal.nd rfl (Or.inl rfl))
          (fun _ _ _ _ _ => pts_one (pt_cmp (pc_isN (pe_ix ix_list (pe_fld (pv 0) rfl) (pv 2) (fun _ _ => rfl))))) (fun _ _ _ _ _ => pv 2)) (pe_lst pa_nil) (nomark _))
        (pss_one (ps_ret (pe_glob (v := .int (-4)) (by rfl) cN ⟨_, rfl⟩))) pss_nil)
      (pss_one (ps_ret pe_int))), ?_⟩
    refine ⟨_, rfl, so, rfl, ⟨_, hso⟩, for_list (K := K) (a := so) (xs := lI l) (fun i σ H' => ∃ v : Option V, σ = [some (.ref t), some (.ref so), v] ∧ H' = H ∧ ∀ z, z ∈ l.take i → Rc89.below z 8 = true) ⟨none, rfl, rfl, fun z h => by simp at h⟩ (fun i σ H' _ ⟨_, _, e, _⟩ => by rw [e]; exact hso) ?_ ?_⟩
    · rintro i y σ H' hy ⟨v, rfl, rfl, hg⟩
      obtain ⟨z, hz, rfl⟩ := lI_get hy
      have no : ∀ {c : Prop}, c → (c → ¬ (0 ≤ z ∧ z < 8)) → Q (.int (-1)) H' := by
        intro c hc h
        have e : refu s l = -1 := by
          refine if_pos ?_
          rw [List.all_eq_false]
          exact ⟨z, List.mem_of_getElem? hz, fun q => h hc ((below_iff z).mp q)⟩
        have := k H' (Same.refl H')
        rw [e] at this
        exact this
      refine ⟨_, rfl, _, _, rfl, rfl, _, rfl, ?_⟩
      refine itd (fun c => ?_) (fun c1 => ?_)
      · exact iteT (no c fun c h => by omega)
      refine ⟨_, rfl, _, _, rfl, rfl, _, rfl, ?_⟩
      refine itd (fun c => ?_) (fun c2 => ?_)
      · exact no c fun c h => by omega
      refine ⟨_, rfl, rfl, fun u hu => ?_⟩
      rw [take_more hz] at hu
      rcases List.mem_append.mp hu with hu | hu
      · exact hg u hu
      · rw [List.mem_singleton] at hu
        rw [hu, below_iff]
        omega
    · rintro σ H' ⟨v, rfl, rfl, hg⟩
      rw [List.take_of_length_le (by unfold lI; rw [List.length_map]; exact Nat.le_refl _)] at hg
      refine ⟨_, rfl, so, rfl, ⟨_, hso⟩, fun D hD => ?_⟩
      refine lc_list (K := K) (a := so) (xs := lI l) (fun i H2 => Same H' H2 ∧ H2 D = some (.lst (lI ((l.take i).filter fun z => !Rc89.there s z)))) ⟨same_upd hD, upd_same⟩ (fun i H' _ ⟨s1, _⟩ => s1.seq hso) (fun i y H2 hy ⟨s1, hD1⟩ => ?_) (fun H2 ⟨s1, hD1⟩ => ?_)
      · obtain ⟨z, hz, rfl⟩ := lI_get hy
        obtain ⟨n, vz, rfl, hv, _, ev⟩ := tab.at (hg z (List.mem_of_getElem? hz))
        have hil : i < l.length := (List.getElem?_eq_some_iff.mp hz).1
        refine ⟨rfl, _, rfl, t, CT, dx, _, _, rfl, s1 _ _ tab.tb, T.clT, T.nMs, f2_snd (by decide +kernel), _, rfl, lm, _, _, _, rfl, rfl, SqL.of (s1 _ _ tab.li), atI_nat hv, _, rfl, ?_⟩
        rw [ev]
        have ef : (l.take (i + 1)).filter (fun z => !Rc89.there s z) = (l.take i).filter (fun z => !Rc89.there s z) ++ (if (!Rc89.there s (n : Int)) = true then [(n : Int)] else []) := by
          rw [take_more hz, List.filter_append, List.filter_cons, List.filter_nil]
        cases eb : (!Rc89.there s (n : Int)) with
        | true =>
          rw [if_pos eb] at ef
          refine iteT ⟨_, rfl, _, hD1, ?_, same_into s1 hD, ?_⟩
          · unfold lI
            rw [List.length_map]
            refine Nat.lt_of_le_of_lt (List.length_filter_le _ _) ?_
            rw [List.length_take]
            exact size_lt (by omega)
          · rw [upd_same, ef, lI_app]
            rfl
        | false =>
          rw [if_neg (by rw [eb]; decide), List.append_nil] at ef
          refine iteF ?_
          rw [ef]
          exact ⟨s1, hD1⟩
      · rw [List.take_of_length_le (by unfold lI; rw [List.length_map]; exact Nat.le_refl _)] at hD1
        refine ⟨Nat.zero_le _, fun z hz => ne_nil_ints hD1 hz ⟨_, rfl, ?_⟩⟩
        have s2 : Same H' (upd H2 z (.lst [])) := same_into s1 (s1.free hz)
        have hall : l.all (fun i => Rc89.below i 8) = true := List.all_eq_true.mpr hg
        have kk := k _ s2
        have he : (l.filter fun z => !Rc89.there s z).isEmpty = l.all (fun i => Rc89.there s i) := by
          rw [Bool.eq_iff_iff, List.isEmpty_iff, List.filter_eq_nil_iff, List.all_eq_true]
          exact ⟨fun h x hx => by have := h x hx; simpa using this, fun h x hx => by have := h x hx; simp [this]⟩
        rw [he]
        unfold refu at kk
        rw [if_neg (by rw [hall]; decide)] at kk
        cases eb : l.all (fun i => Rc89.there s i) with
        | true =>
          rw [if_neg (by rw [eb]; decide)] at kk
          exact iteF kk
        | false =>
          rw [if_pos eb] at kk
          exact iteT kk
end
end Gt
/-! ## GtD18 -/
namespace Gt
open PySem PySem.Spec PyProof.Rows L2
open Rc89 (act next again since path)
section
variable {P : Program} {w : World} {K : PySem.W.Frag} {mg : Str → Option Value} {base : Heap} {CM CP CX CT : Addr}
/-! ### Table.of_two -/
def two (s : Rc89.Abs) (deed i j n : Int) : List Int :=
  if deed = 6 then [(Rc89.bit (Rc89.same (Rc89.machine s i) (Rc89.machine s j)) : Nat)]
  else if deed = 3 then [0, (Rc89.bits (Rc89.total s.pay (Rc89.machine s i) (Rc89.machine s j) n.toNat) : Nat), (Rc89.bits (Rc89.total s.pay (Rc89.machine s j) (Rc89.machine s i) n.toNat) : Nat)]
  else if deed = 4 then [(Rc89.turn (Rc89.machine s i) (Rc89.machine s j) : Nat), (since (Rc89.machine s i) (Rc89.machine s j) : Nat)]
  else (again (Rc89.machine s i) (Rc89.machine s j) : Nat) :: (((Rc89.allMoves (Rc89.machine s i) (Rc89.machine s j)).take (Rc89.room_ n 256)).map fun (b : Nat) => (b : Int))
theorem moves_acts (A B : Rc89.Machine) : Rc89.allMoves A B = (acts A B (again A B)).map fun p => 2 * p.1 + p.2 := by
  unfold Rc89.allMoves acts
  rw [List.map_map]
  rfl
theorem bits_is (z : Int) : z % 18446744073709551616 = (Rc89.bits z : Nat) := by
  unfold Rc89.bits
  rw [Int.toNat_of_nonneg (Int.emod_nonneg _ (by decide))]
def spOfTwo (CM CP C : Addr) : Sp := fun vs H Q _ => ∃ (t : Addr) (deed i j n : Int) (s : Rc89.Abs), vs = [.ref t, .int deed, .int i, .int j, .int n] ∧ TableAt CM CP C H t s ∧ Rc89.below i 8 = true ∧ Rc89.below j 8 = true ∧ Rc89.there s i = true ∧ Rc89.there s j = true ∧ (deed = 3 → 0 ≤ n ∧ n ≤ 1000000000000000) ∧
  ∀ (H' : Hp) (r : Addr), Same H H' → H' r = some (.lst (lI (two s deed i j n))) → H r = none → Q (.ref r) H'
theorem scOfTwo : FnScope ["self", "deed", "one", "other", "number", "first", "second", "match", "paid", "found", "deeds"] ["self", "deed", "one", "other", "number"] (defScope sOfTwo) := ⟨rfl, rfl, rfl, by decide +kernel, rfl, by decide +kernel, by decide +kernel⟩
theorem row_there {G : Hp} {v : V} {s : Rc89.Abs} {i : Int} (h : Row CM G v (Rc89.machine s i)) (e : Rc89.there s i = true) : ∃ m, v = .ref m ∧ Ok (Rc89.machine s i) ∧ MachAt CM G m (Rc89.machine s i) := by
  rcases h with ⟨_, h⟩ | h
  · unfold Rc89.there at e
    rw [h] at e
    exact absurd e (by decide)
  · exact h
theorem ok_oftwo {f fS fX fD fU : Addr} {fd fdS fdX fdD fdU : FuncData} (F : Fun K "of_two" "Table.of_two" sOfTwo f fd) (T : Txt K mg CM CP CX CT) (GS : Df P w K mg base "are_same" 1 ["one", "other"] (spSame CM) fS fdS) (GX : Nw P w K mg base CX "Match" 1 ["self", "one", "other"] (spXInit CM CX) fX fdX)
    (GD : Md P w K mg base CX "paid" 3 ["self", "pay", "rounds"] (spPaid CP CX) fD fdD) (GU : Md P w K mg base CX "turn" 1 ["self"] (spTurn CX) fU fdU) : FnOk P w K mg base CX0 4 f fd ["self", "deed", "one", "other", "number"] (spOfTwo CM CP CT) := by
  refine F.ok scOfTwo (fun vs H Q E h => ?_) (fun cdv Ar outer s H vs Q E hr h => ?_)
  · obtain ⟨t, deed, i, j, n, s, rfl, _⟩ := h
    rfl
  · obtain ⟨t, deed, i, j, n, s, rfl, ⟨dx, pp, lm, ws, tab⟩, bi, bj, ti, tj, hn, k⟩ := h
    obtain ⟨tk, cW⟩ := T.cWord
    obtain ⟨tk2, cV⟩ := T.cMoves
    have hr1 : Room 1 _ := hr.mono (by decide)
    have hr2 : Room 2 _ := hr.mono (by decide)
    refine ⟨_, pss_cons (ps_set (i := 5) scOfTwo.nd rfl (Or.inl rfl) (pe_ix ix_list (pe_fld (pv 0) rfl) (pv 2) (fun _ _ => rfl)))
      (pss_cons (ps_set (i := 6) scOfTwo.nd rfl (Or.inl rfl) (pe_ix ix_list (pe_fld (pv 0) rfl) (pv 3) (fun _ _ => rfl)))
      (pss_cons (ps_if (pt_cmpR op_eq (pv 1) pe_int (nomark _)) (pss_one (ps_ret (pe_lst (pa_cons (pe_callTy call_int1 (by rfl) T.int (by decide +kernel) (pa_cons (pe_call GS.ok hr1 (by rfl) GS.mg GS.kp GS.b .nil pass0 (pa_cons (pv 5) (pa_cons (pv 6) pa_nil))) pa_nil)) pa_nil)))) pss_nil)
      (pss_cons (ps_set (i := 7) scOfTwo.nd rfl (Or.inl rfl) (pe_make GX.mc GX.ok hr2 (by rfl) GX.mg GX.b .nil pass0 (pa_cons (pv 5) (pa_cons (pv 6) pa_nil))))
      (pss_cons (ps_if (pt_cmpR op_eq (pv 1) pe_int (nomark _))
        (pss_cons (ps_set (i := 8) scOfTwo.nd rfl (Or.inl rfl) (pe_meth (pv 7) T.clX GD.m GD.ok hr GD.b .nil pass0 (pa_cons (pe_fld (pv 0) rfl) (pa_cons (pv 4) pa_nil))))
        (pss_one (ps_ret (pe_lst (pa_cons pe_int (pa_cons (pe_op op_mod (pe_ix ix_tup (pv 8) pe_int (fun _ _ => rfl)) (pe_glob (v := .int 18446744073709551616) (by rfl) cW ⟨_, rfl⟩)) (pa_cons (pe_op op_mod (pe_ix ix_tup (pv 8) pe_int (fun _ _ => rfl)) (pe_glob (v := .int 18446744073709551616) (by rfl) cW ⟨_, rfl⟩)) pa_nil))))))) pss_nil)
      (pss_cons (ps_if (pt_cmpR op_eq (pv 1) pe_int (nomark _)) (pss_one (ps_ret (pe_lst (pa_cons (pe_meth0 (pv 7) T.clX GU.m GU.ok hr1 GU.b .nil pass0) (pa_cons (pe_fld (pv 7) rfl) pa_nil))))) pss_nil)
      (pss_cons (ps_set (i := 9) scOfTwo.nd rfl (Or.inl rfl) (pe_lst (pa_cons (pe_callB call_len_seq (by rfl) T.len PySem.boot_len (pa_cons (pe_fld (pv 7) rfl) pa_nil)) pa_nil)))
      (pss_cons (ps_if (pt_chain op_le op_le pe_int (pv 4) (pe_glob (v := .int 256) (by rfl) cV ⟨_, rfl⟩))
        (pss_one (ps_expr (pe_bm PySem.F.plainAttrs_list PySem.F.slot_list_extend PySem.F.type_list_extend mt_extend (pv 9)
          (pa_cons (pe_lc (own := [("deeds", 10)]) (g := gName 10) (tt := tYes) (te := tOp rAddI (tOp rMulI (tC (.int 2)) (tOp (rIxT K) (tVar 10) (tC (.int 0)))) (tOp (rIxT K) (tVar 10) (tC (.int 1)))) (by rfl) scOfTwo.nd
            (pi_list (pe_slice sl_list (pe_fld (pv 7) rfl) po_none (po_some (pv 4))))
            (blkOk_by (own := [("deeds", 10)]) (N := ["self", "deed", "one", "other", "number", "first", "second", "match", "paid", "found", "deeds"]) (sc := defScope sOfTwo) (by decide +kernel))
            (fun _ _ _ _ _ => pg_name (i := 10) scOfTwo.nd rfl (Or.inl rfl)) (fun _ _ _ _ _ => pts_nil)
            (fun _ _ _ _ _ => pe_op op_add (pe_op op_mul pe_int (pe_ix ix_tup (pv 10) pe_int (fun _ _ => rfl))) (pe_ix ix_tup (pv 10) pe_int (fun _ _ => rfl)))) pa_nil)))) pss_nil)
      (pss_one (ps_ret (pv 9)))))))))), ?_⟩
    obtain ⟨ni, vi, ei, hvi, ri, _⟩ := tab.at bi
    obtain ⟨nj, vj, ej, hvj, rj, _⟩ := tab.at bj
    obtain ⟨ma, rfl, oA, mA0⟩ := row_there ri ti
    obtain ⟨mb, rfl, oB, mB0⟩ := row_there rj tj
    have sb : Same (beside H t lm) H := fun b o e => (beside_in e).2.2
    have mA := mA0.same sb
    have mB := mB0.same sb
    have pA := tab.pay.same sb
    generalize hA : Rc89.machine s i = A at oA mA
    generalize hB : Rc89.machine s j = B at oB mB
    refine ⟨_, rfl, t, CT, dx, _, _, rfl, tab.tb, T.clT, T.nMs, f2_snd (by decide +kernel), _, rfl, lm, _, _, _, rfl, rfl, SqL.of tab.li, at_of (j := ni) ei hvi, ?_⟩
    refine ⟨_, rfl, t, CT, dx, _, _, rfl, tab.tb, T.clT, T.nMs, f2_snd (by decide +kernel), _, rfl, lm, _, _, _, rfl, rfl, SqL.of tab.li, at_of (j := nj) ej hvj, ?_⟩
    refine ⟨_, rfl, rfl, _, rfl, ?_⟩
    have etwo : two s deed i j n = (show List Int from if deed = 6 then [(Rc89.bit (Rc89.same A B) : Nat)]
        else if deed = 3 then [0, (Rc89.bits (Rc89.total s.pay A B n.toNat) : Nat), (Rc89.bits (Rc89.total s.pay B A n.toNat) : Nat)]
        else if deed = 4 then [(Rc89.turn A B : Nat), (since A B : Nat)]
        else (again A B : Nat) :: (((Rc89.allMoves A B).take (Rc89.room_ n 256)).map fun (b : Nat) => (b : Int))) := by
      unfold two
      rw [hA, hB]
    have etwo := etwo
    dsimp only at etwo
    refine itd (fun c => ?_) (fun c6 => ?_)
    · have c := V.int.inj c
      rw [if_pos c] at etwo
      rw [etwo] at k
      refine ⟨_, rfl, _, rfl, ma, mb, A, B, rfl, mA, mB, oA, oB, fun H1 s1 => .inr ⟨_, rfl, (by show 1 ≤ sizeLine; decide), fun r hr' => k _ r (same_into s1 (s1.free hr')) ?_ (s1.free hr')⟩⟩
      rw [upd_same]
      cases Rc89.same A B <;> rfl
    have c6 : ¬ deed = 6 := fun q => c6 (by rw [q])
    rw [if_neg c6] at etwo
    -- match = Match(first, second)
    refine ⟨_, rfl, _, rfl, fun x dm hx hdm ne => ⟨x, dm, ma, mb, A, B, rfl, upd_same, ?_, ?_, oA, oB, fun H1 hM k1 => ⟨rfl, ?_⟩⟩⟩
    · exact mA.same (same_into (same_into (Same.refl H) hdm) hx)
    · exact mB.same (same_into (same_into (Same.refl H) hdm) hx)
    have s1 : Same H H1 := Same.made hx hdm k1
    have hM' := hM
    obtain ⟨d1, lv, ms, m1, m2, m3, m4⟩ := hM'
    have hml : ms.length = again A B := by
      have := congrArg List.length m4
      rw [List.length_map, acts_len] at this
      exact this
    have sl := since_lt oA oB
    have big : A.length * B.length ≤ 256 := by
      have := Nat.mul_le_mul oA.most oB.most
      omega
    refine ⟨_, rfl, rfl, _, rfl, ?_⟩
    refine itd (fun c => ?_) (fun c3 => ?_)
    · have c := V.int.inj c
      rw [if_pos c] at etwo
      rw [etwo] at k
      obtain ⟨n0, n1⟩ := hn c
      obtain ⟨m, rfl⟩ : ∃ m : Nat, n = (m : Int) := ⟨n.toNat, by omega⟩
      rw [Int.toNat_natCast] at k
      refine ⟨_, rfl, x, d1, _, rfl, m1, f2_no (by decide +kernel) (by decide +kernel), _, rfl, t, CT, dx, _, _, rfl, s1 _ _ tab.tb, T.clT, T.nP, f2_fst, _, rfl, x, pp, A, B, s.pay, m, rfl, hM, pA.same s1, oA, oB, by omega, fun H2 tp s2 htp => ?_⟩
      have s02 := s1.trans s2
      refine ⟨_, rfl, tp, _, 0, _, rfl, rfl, SqT.of htp, atI_nat (j := 0) rfl, _, _, rfl, rfl, (by show (0 : Int) < 18446744073709551616; decide), _, rfl, tp, _, 1, _, rfl, rfl, SqT.of htp, atI_nat (j := 1) rfl, _, _, rfl, rfl, (by show (0 : Int) < 18446744073709551616; decide), (by show 3 ≤ sizeLine; decide), fun r hr' => k _ r (same_into s02 (s02.free hr')) ?_ (s02.free hr')⟩
      rw [upd_same]
      show some (HO.lst [V.int 0, V.int (Rc89.total s.pay A B m % 18446744073709551616), V.int (Rc89.total s.pay B A m % 18446744073709551616)]) = _
      rw [bits_is, bits_is]
      rfl
    have c3 : ¬ deed = 3 := fun q => c3 (by rw [q])
    rw [if_neg c3] at etwo
    refine ⟨_, rfl, rfl, _, rfl, ?_⟩
    refine itd (fun c => ?_) (fun c4 => ?_)
    · have c := V.int.inj c
      rw [if_pos c] at etwo
      rw [etwo] at k
      refine ⟨_, rfl, x, d1, _, rfl, m1, f2_no (by decide +kernel) (by decide +kernel), x, A, B, rfl, hM, oA, oB, _, rfl, x, CX, d1, _, _, rfl, m1, T.clX, T.nS, f2_snd (by decide +kernel), (by show 2 ≤ sizeLine; decide), fun r hr' => k _ r (same_into s1 (s1.free hr')) ?_ (s1.free hr')⟩
      rw [upd_same]
      rfl
    have c4 : ¬ deed = 4 := fun q => c4 (by rw [q])
    rw [if_neg c4] at etwo
    -- found = [len(match.moves)]
    refine ⟨_, rfl, x, CX, d1, _, _, rfl, m1, T.clX, T.nMv, f2_fst, lv, _, rfl, .inl (SqL.of m2), (by show 1 ≤ sizeLine; decide), fun r hr1' => ?_⟩
    have e1 : (refsP ms).length = again A B := by unfold refsP; rw [List.length_map, hml]
    rw [e1]
    generalize hH2 : upd H1 r (.lst [V.int (again A B : Nat)]) = H2
    have hr0 : H r = none := s1.free hr1'
    have s12 : Same H1 H2 := by rw [← hH2]; exact same_upd hr1'
    have s2 : Same H H2 := s1.trans s12
    have hr2 : H2 r = some (.lst [V.int (again A B : Nat)]) := by rw [← hH2]; exact upd_same
    have none_ : ¬ (1 ≤ n ∧ n ≤ 256) → Q (.ref r) H2 := fun hc => by
      have e : Rc89.room_ n 256 = 0 := if_neg hc
      rw [e, List.take_zero] at etwo
      rw [etwo] at k
      exact k H2 r s2 hr2 hr0
    refine ⟨_, rfl, _, _, rfl, rfl, _, rfl, ?_⟩
    refine itd (fun d1' => ?_) (fun d1' => ⟨_, rfl, iteF ⟨_, rfl, none_ fun q => d1' q.1⟩⟩)
    refine ⟨_, _, rfl, rfl, _, rfl, ?_⟩
    refine itd (fun d2' => ?_) (fun d2' => ⟨_, rfl, none_ fun q => d2' q.2⟩)
    obtain ⟨m, rfl⟩ : ∃ m : Nat, n = (m : Int) := ⟨n.toNat, by omega⟩
    have er : Rc89.room_ (m : Int) 256 = m := by
      unfold Rc89.room_
      rw [if_pos ⟨d1', d2'⟩, Int.toNat_natCast]
    rw [er] at etwo
    -- found.extend([..])
    refine ⟨_, rfl, .inl ⟨rfl, _, SqL.of hr2⟩, ?_⟩
    refine ⟨_, rfl, x, CX, d1, _, _, rfl, s12 _ _ m1, T.clX, T.nMv, f2_fst, _, rfl, _, rfl, lv, _, rfl, SqL.of (s12 _ _ m2), fun sl' hsl => ?_⟩
    have ecut : cutV (refsP ms) none (some (m : Int)) = refsP (ms.take m) := by
      unfold cutV refsP
      rw [HT.sIx_none, HT.sIx_nat, List.drop_zero, Nat.sub_zero, List.map_take, List.length_map]
      by_cases c : m ≤ ms.length
      · rw [Nat.min_eq_left c]
      · rw [Nat.min_eq_right (by omega), List.take_of_length_le (by rw [List.length_map]; exact Nat.le_refl _), List.take_of_length_le (by rw [List.length_map]; omega)]
    rw [ecut]
    generalize hH3 : upd H2 sl' (.lst (refsP (ms.take m))) = H3
    have s23 : Same H2 H3 := by rw [← hH3]; exact same_upd hsl
    have hsl3 : H3 sl' = some (.lst (refsP (ms.take m))) := by rw [← hH3]; exact upd_same
    refine ⟨sl', rfl, ⟨_, SqL.of hsl3⟩, fun D hD => ?_⟩
    refine lc_list (K := K) (a := sl') (xs := refsP (ms.take m)) (fun q H' => Same H3 H' ∧ H' D = some (.lst (lN (((ms.take m).map fun p => 2 * p.2.1 + p.2.2).take q)))) ⟨same_upd hD, upd_same⟩ (fun q H' _ ⟨s4, _⟩ => SqL.of (s4 _ _ hsl3)) (fun q y H' hy ⟨s4, hD4⟩ => ?_) (fun H' ⟨s4, hD4⟩ => ?_)
    · obtain ⟨⟨td, u, v⟩, hm, rfl⟩ : ∃ p, (ms.take m)[q]? = some p ∧ y = V.ref p.1 := by
        unfold refsP at hy
        rw [List.getElem?_map] at hy
        obtain ⟨p, q1, q2⟩ := Option.map_eq_some_iff.mp hy
        exact ⟨p, q1, q2.symm⟩
      have hql : q < ms.length := by
        have := (List.getElem?_eq_some_iff.mp hm).1
        rw [List.length_take] at this
        omega
      have htd := s4 _ _ (s23 _ _ (s12 _ _ (m3 (td, u, v) (List.mem_of_mem_take (List.mem_of_getElem? hm)))))
      refine ⟨rfl, _, rfl, td, _, 0, _, rfl, rfl, SqT.of htd, atI_nat (j := 0) rfl, _, _, rfl, rfl, .inl ⟨by decide, by decide⟩, _, rfl, td, _, 1, _, rfl, rfl, SqT.of htd, atI_nat (j := 1) rfl, _, _, rfl, rfl, _, hD4, lN_take_lt (by omega), same_into s4 hD, ?_⟩
      rw [upd_same, lN_more (n := 2 * u + v) (by rw [List.getElem?_map, hm]; rfl)]
      show some (HO.lst (_ ++ [V.int (2 * (u : Int) + (v : Int))])) = _
      rw [show (2 * (u : Int) + (v : Int)) = ((2 * u + v : Nat) : Int) by omega]
    · have hD5 : H' D = some (.lst (lN ((ms.take m).map fun p => 2 * p.2.1 + p.2.2))) := by
        rw [List.take_of_length_le (by unfold refsP; rw [List.length_map, List.length_map]; exact Nat.le_refl _)] at hD4
        exact hD4
      have hr5 := s4 _ _ (s23 _ _ hr2)
      have sE : Same H H' := (s2.trans s23).trans s4
      refine ⟨r, D, _, _, rfl, rfl, hr5, hD5, ?_, ?_⟩
      · unfold lN
        rw [List.length_map, List.length_map, List.length_take]
        show 1 + min m ms.length ≤ sizeLine
        exact size_small (by omega)
      · refine ⟨_, rfl, ?_⟩
        rw [etwo] at k
        refine k _ r (same_into sE hr0) ?_ hr0
        rw [upd_same]
        have ea : (Rc89.allMoves A B).take m = (ms.take m).map fun p => 2 * p.2.1 + p.2.2 := by
          rw [moves_acts, ← m4, List.map_map, List.map_take]
          rfl
        rw [ea]
        unfold lI lN
        rw [List.map_cons, List.map_map, List.map_map, List.map_map]
        rfl
end
end Gt
/-! ## GtD19 -/
namespace Gt
open PySem PySem.Spec PyProof.Rows L2
open Rc89 (act next again since path)
theorem iteEqF {a b : Int} {A B : Prop} (h : a ≠ b) (hb : B) : if decide (V.int a = V.int b) = true then A else B := by
  rw [decide_eq_false (fun q => h (V.int.inj q))]
  exact iteF hb
theorem iteEqT {a : Int} {A B : Prop} (ha : A) : if decide (V.int a = V.int a) = true then A else B := by
  rw [decide_eq_true rfl]
  exact iteT ha
/-! ### what is refused -/
theorem refu2_no {s : Rc89.Abs} {i j : Int} (h : refu s [i, j] < 0) : ((Rc89.below i 8 && Rc89.below j 8) = false ∧ refu s [i, j] = -1) ∨ ((Rc89.below i 8 && Rc89.below j 8) = true ∧ (Rc89.there s i && Rc89.there s j) = false ∧ refu s [i, j] = -4) := by
  have e1 : ([i, j].all fun z => Rc89.below z 8) = (Rc89.below i 8 && Rc89.below j 8) := by simp
  have e2 : ([i, j].all fun z => Rc89.there s z) = (Rc89.there s i && Rc89.there s j) := by simp
  unfold refu at h ⊢
  rw [e1, e2] at h ⊢
  cases hb : (Rc89.below i 8 && Rc89.below j 8) with
  | false => exact .inl ⟨rfl, if_pos rfl⟩
  | true =>
    rw [hb, if_neg (by decide)] at h
    rw [if_neg (by decide)]
    cases ht : (Rc89.there s i && Rc89.there s j) with
    | false => exact .inr ⟨rfl, rfl, if_pos rfl⟩
    | true => rw [ht, if_neg (by decide)] at h; omega
theorem refu2_ok {s : Rc89.Abs} {i j : Int} (h : ¬ refu s [i, j] < 0) : (Rc89.below i 8 = true ∧ Rc89.below j 8 = true) ∧ (Rc89.there s i = true ∧ Rc89.there s j = true) := by
  have e1 : ([i, j].all fun z => Rc89.below z 8) = (Rc89.below i 8 && Rc89.below j 8) := by simp
  have e2 : ([i, j].all fun z => Rc89.there s z) = (Rc89.there s i && Rc89.there s j) := by simp
  unfold refu at h
  rw [e1, e2] at h
  cases hb : (Rc89.below i 8 && Rc89.below j 8) with
  | false => rw [hb, if_pos rfl] at h; omega
  | true =>
    rw [hb, if_neg (by decide)] at h
    cases ht : (Rc89.there s i && Rc89.there s j) with
    | false => rw [ht, if_pos rfl] at h; omega
    | true => exact ⟨Bool.and_eq_true_iff.mp hb, Bool.and_eq_true_iff.mp ht⟩
theorem refu1_no {s : Rc89.Abs} {i : Int} (h : refu s [i] < 0) : (Rc89.below i 8 = false ∧ refu s [i] = -1) ∨ (Rc89.below i 8 = true ∧ Rc89.there s i = false ∧ refu s [i] = -4) := by
  have e1 : ([i].all fun z => Rc89.below z 8) = Rc89.below i 8 := by simp
  have e2 : ([i].all fun z => Rc89.there s z) = Rc89.there s i := by simp
  unfold refu at h ⊢
  rw [e1, e2] at h ⊢
  cases hb : Rc89.below i 8 with
  | false => exact .inl ⟨rfl, if_pos rfl⟩
  | true =>
    rw [hb, if_neg (by decide)] at h
    rw [if_neg (by decide)]
    cases ht : Rc89.there s i with
    | false => exact .inr ⟨rfl, rfl, if_pos rfl⟩
    | true => rw [ht, if_neg (by decide)] at h; omega
theorem refu1_ok {s : Rc89.Abs} {i : Int} (h : ¬ refu s [i] < 0) : Rc89.below i 8 = true ∧ Rc89.there s i = true := by
  have e1 : ([i].all fun z => Rc89.below z 8) = Rc89.below i 8 := by simp
  have e2 : ([i].all fun z => Rc89.there s z) = Rc89.there s i := by simp
  unfold refu at h
  rw [e1, e2] at h
  cases hb : Rc89.below i 8 with
  | false => rw [hb, if_pos rfl] at h; omega
  | true =>
    rw [hb, if_neg (by decide)] at h
    cases ht : Rc89.there s i with
    | false => rw [ht, if_pos rfl] at h; omega
    | true => exact ⟨rfl, rfl⟩
/-- the calls that ask of machines -/
inductive AskM : Rc89.Call → Int → List Int → List Int → Prop
  | play (i j k : Int) : 0 ≤ k → k ≤ 1000000000000000 → AskM (.play i j k.toNat) 3 [i, j, k] [i, j]
  | turn (i j : Int) : AskM (.turn i j) 4 [i, j] [i, j]
  | moves (i j m : Int) : AskM (.moves i j m) 5 [i, j, m] [i, j]
  | same (i j : Int) : AskM (.same i j) 6 [i, j] [i, j]
  | least (i : Int) : AskM (.least i) 7 [i] [i]
  | best (i : Int) : AskM (.best i) 8 [i] [i]
theorem ask_no {s : Rc89.Abs} {x : Rc89.Call} {p : Int} {xs l : List Int} (a : AskM x p xs l) (h : refu s l < 0) : Rc89.does s x = (s, { value := refu s l }) := by
  cases a with
  | play i j k h0 h1 =>
    have hk : decide (k.toNat ≤ Rc89.LONG) = true := decide_eq_true (by unfold Rc89.LONG; omega)
    rcases refu2_no h with ⟨e1, e2⟩ | ⟨e1, e2, e3⟩
    · rw [e2]
      exact if_pos (by rw [hk, Bool.and_true]; exact e1)
    · rw [e3]
      exact (if_neg (by rw [hk, Bool.and_true]; rw [show (Rc89.below i Rc89.PLACES && Rc89.below j Rc89.PLACES) = true from e1]; decide)).trans (if_pos e2)
  | turn i j =>
    rcases refu2_no h with ⟨e1, e2⟩ | ⟨e1, e2, e3⟩
    · rw [e2]; exact if_pos e1
    · rw [e3]; exact (if_neg (by rw [show (Rc89.below i Rc89.PLACES && Rc89.below j Rc89.PLACES) = true from e1]; decide)).trans (if_pos e2)
  | moves i j m =>
    rcases refu2_no h with ⟨e1, e2⟩ | ⟨e1, e2, e3⟩
    · rw [e2]; exact if_pos e1
    · rw [e3]; exact (if_neg (by rw [show (Rc89.below i Rc89.PLACES && Rc89.below j Rc89.PLACES) = true from e1]; decide)).trans (if_pos e2)
  | same i j =>
    rcases refu2_no h with ⟨e1, e2⟩ | ⟨e1, e2, e3⟩
    · rw [e2]; exact if_pos e1
    · rw [e3]; exact (if_neg (by rw [show (Rc89.below i Rc89.PLACES && Rc89.below j Rc89.PLACES) = true from e1]; decide)).trans (if_pos e2)
  | least i =>
    rcases refu1_no h with ⟨e1, e2⟩ | ⟨e1, e2, e3⟩
    · rw [e2]; exact if_pos e1
    · rw [e3]; exact (if_neg (by rw [show Rc89.below i Rc89.PLACES = true from e1]; decide)).trans (if_pos e2)
  | best i =>
    rcases refu1_no h with ⟨e1, e2⟩ | ⟨e1, e2, e3⟩
    · rw [e2]; exact if_pos e1
    · rw [e3]; exact (if_neg (by rw [show Rc89.below i Rc89.PLACES = true from e1]; decide)).trans (if_pos e2)
theorem far_play {s : Rc89.Abs} {i j k : Int} (h : 1000000000000000 < k) : Rc89.does s (.play i j k.toNat) = (s, Rc89.refused) := by
  refine if_pos ?_
  have hk : decide (k.toNat ≤ Rc89.LONG) = false := decide_eq_false (by unfold Rc89.LONG; omega)
  rw [hk, Bool.and_false, Bool.and_false]
theorem ok2 {s : Rc89.Abs} {i j : Int} (b : Rc89.below i 8 = true ∧ Rc89.below j 8 = true) (t : Rc89.there s i = true ∧ Rc89.there s j = true) : ¬ (Rc89.below i Rc89.PLACES && Rc89.below j Rc89.PLACES) = false ∧ ¬ (Rc89.there s i && Rc89.there s j) = false := by
  constructor
  · rw [show Rc89.below i Rc89.PLACES = true from b.1, show Rc89.below j Rc89.PLACES = true from b.2]; decide
  · rw [t.1, t.2]; decide
theorem yes_play {s : Rc89.Abs} {i j k : Int} (h1 : k ≤ 1000000000000000) (b : Rc89.below i 8 = true ∧ Rc89.below j 8 = true) (t : Rc89.there s i = true ∧ Rc89.there s j = true) : (Rc89.does s (.play i j k.toNat)).1 = s ∧ ans (Rc89.does s (.play i j k.toNat)).2 = two s 3 i j k := by
  have hk : decide (k.toNat ≤ Rc89.LONG) = true := decide_eq_true (by unfold Rc89.LONG; omega)
  obtain ⟨n1, n2⟩ := ok2 b t
  have e : Rc89.does s (.play i j k.toNat) = (s, { value := 0, numbers := [Rc89.bits (Rc89.total s.pay (Rc89.machine s i) (Rc89.machine s j) k.toNat), Rc89.bits (Rc89.total s.pay (Rc89.machine s j) (Rc89.machine s i) k.toNat)] }) :=
    (if_neg (by rw [hk, Bool.and_true]; exact n1)).trans (if_neg n2)
  rw [e]
  exact ⟨rfl, rfl⟩
theorem yes_turn {s : Rc89.Abs} {i j : Int} (b : Rc89.below i 8 = true ∧ Rc89.below j 8 = true) (t : Rc89.there s i = true ∧ Rc89.there s j = true) (n : Int) : (Rc89.does s (.turn i j)).1 = s ∧ ans (Rc89.does s (.turn i j)).2 = two s 4 i j n := by
  obtain ⟨n1, n2⟩ := ok2 b t
  have e : Rc89.does s (.turn i j) = (s, { value := (Rc89.turn (Rc89.machine s i) (Rc89.machine s j) : Nat), numbers := [Rc89.since (Rc89.machine s i) (Rc89.machine s j)] }) := (if_neg n1).trans (if_neg n2)
  rw [e]
  exact ⟨rfl, rfl⟩
theorem yes_moves {s : Rc89.Abs} {i j m : Int} (b : Rc89.below i 8 = true ∧ Rc89.below j 8 = true) (t : Rc89.there s i = true ∧ Rc89.there s j = true) : (Rc89.does s (.moves i j m)).1 = s ∧ ans (Rc89.does s (.moves i j m)).2 = two s 5 i j m := by
  obtain ⟨n1, n2⟩ := ok2 b t
  have e : Rc89.does s (.moves i j m) = (s, { value := (again (Rc89.machine s i) (Rc89.machine s j) : Nat), numbers := (Rc89.allMoves (Rc89.machine s i) (Rc89.machine s j)).take (Rc89.room_ m Rc89.MOVES) }) := (if_neg n1).trans (if_neg n2)
  rw [e]
  exact ⟨rfl, rfl⟩
theorem yes_same {s : Rc89.Abs} {i j : Int} (b : Rc89.below i 8 = true ∧ Rc89.below j 8 = true) (t : Rc89.there s i = true ∧ Rc89.there s j = true) (n : Int) : (Rc89.does s (.same i j)).1 = s ∧ ans (Rc89.does s (.same i j)).2 = two s 6 i j n := by
  obtain ⟨n1, n2⟩ := ok2 b t
  have e : Rc89.does s (.same i j) = (s, { value := (Rc89.bit (Rc89.same (Rc89.machine s i) (Rc89.machine s j)) : Nat) }) := (if_neg n1).trans (if_neg n2)
  rw [e]
  exact ⟨rfl, rfl⟩
theorem yes_least {s : Rc89.Abs} {i : Int} (b : Rc89.below i 8 = true ∧ Rc89.there s i = true) : Rc89.does s (.least i) = (s, { value := (Rc89.least (Rc89.machine s i) : Nat) }) :=
  (if_neg (by rw [show Rc89.below i Rc89.PLACES = true from b.1]; decide)).trans (if_neg (by rw [b.2]; decide))
theorem yes_best {s : Rc89.Abs} {i : Int} (b : Rc89.below i 8 = true ∧ Rc89.there s i = true) : Rc89.does s (.best i) = (s, { value := 0, numbers := [Rc89.bits (Rc89.best s.pay (Rc89.machine s i)).1, (Rc89.best s.pay (Rc89.machine s i)).2] }) :=
  (if_neg (by rw [show Rc89.below i Rc89.PLACES = true from b.1]; decide)).trans (if_neg (by rw [b.2]; decide))
end Gt
/-! ## GtD20 -/
namespace Gt
open PySem PySem.Spec PyProof.Rows L2
open Rc89 (act next again since path)
section
variable {P : Program} {w : World} {K : PySem.W.Frag} {mg : Str → Option Value} {base : Heap} {CM CP CX CT : Addr}
/-! ### Table.answer -/
def spAnswer (K : PySem.W.Frag) (CM CP C : Addr) : Sp := fun vs H Q _ => ∃ (t nl sl : Addr) (p : Int) (xs ss : List Int) (x : Rc89.Call) (s : Rc89.Abs) (G : Hp), vs = [.ref t, .int p, .ref nl, .ref sl] ∧ SqL K H nl (lI xs) ∧ SqL K H sl (lI ss) ∧ Asked p xs ss x ∧ Same G H ∧ TableAt CM CP C G t s ∧
  ∀ (H' : Hp) (r : Addr) (G' : Hp), Left G H H' G' → TableAt CM CP C G' t (Rc89.does s x).1 → H' r = some (.lst (lI (ans (Rc89.does s x).2))) → H r = none → Q (.ref r) H'
theorem scAnswer : FnScope ["self", "deed", "numbers", "states", "some", "refusal", "amount", "rounds"] ["self", "deed", "numbers", "states"] (defScope sAnswer) := ⟨rfl, rfl, rfl, by decide +kernel, rfl, by decide +kernel, by decide +kernel⟩
theorem ok_answer {f fP fS fM fR fF fB fT : Addr} {fd fdP fdS fdM fdR fdF fdB fdT : FuncData} (F : Fun K "answer" "Table.answer" sAnswer f fd) (T : Txt K mg CM CP CX CT) (GP : Nw P w K mg base CP "Pay" 1 ["self", "both", "given", "taken", "none"] (spPInit CP) fP fdP)
    (GS : Md P w K mg base CT "set_pay" 3 ["self", "numbers"] (spSetPay K CM CP CT) fS fdS) (GM : Md P w K mg base CT "machine" 3 ["self", "which", "states"] (spMachine K CM CP CT) fM fdM) (GR : Md P w K mg base CT "refusal" 1 ["self", "some"] (spRefusal K CM CP CT) fR fdR)
    (GF : Df P w K mg base "fewest_states" 2 ["machine"] (spFewest CM) fF fdF) (GB : Df P w K mg base "best_of" 3 ["machine", "pay"] (spBest CM CP) fB fdB) (GT : Md P w K mg base CT "of_two" 4 ["self", "deed", "one", "other", "number"] (spOfTwo CM CP CT) fT fdT) :
    FnOk P w K mg base CX0 5 f fd ["self", "deed", "numbers", "states"] (spAnswer K CM CP CT) := by
  refine F.ok scAnswer (fun vs H Q E h => ?_) (fun cdv Ar outer s H vs Q E hr h => ?_)
  · obtain ⟨t, nl, sl, p, xs, ss, x, s, G, rfl, _⟩ := h
    rfl
  · obtain ⟨t, nl, sl, p, xs, ss, x, s, G, rfl, hnl, hsl, ask, sG, hT, k⟩ := h
    obtain ⟨tk, cM⟩ := T.cMach
    obtain ⟨tk2, cR⟩ := T.cRef
    obtain ⟨tk3, cL⟩ := T.cRounds
    obtain ⟨tk4, cW⟩ := T.cWord
    have hr1 : Room 1 _ := hr.mono (by decide)
    have hr2 : Room 2 _ := hr.mono (by decide)
    have hr3 : Room 3 _ := hr.mono (by decide)
    refine ⟨_, pss_cons (ps_if (pt_cmpR op_eq (pv 1) pe_int (nomark _))
        (pss_cons (ps_fld (pv 0) (pe_make GP.mc GP.ok hr2 (by rfl) GP.mg GP.b .nil pass0 (pa_cons pe_int (pa_cons pe_int (pa_cons pe_int (pa_cons pe_int pa_nil))))) rfl)
        (pss_cons (ps_fld (pv 0) (pe_op op_rep (pe_lst (pa_cons pe_non pa_nil)) (pe_glob (v := .int 8) (by rfl) cM ⟨_, rfl⟩)) rfl)
        (pss_one (ps_ret (pe_lst (pa_cons pe_int pa_nil)))))) pss_nil)
      (pss_cons (ps_if (pt_cmpR op_eq (pv 1) pe_int (nomark _)) (pss_one (ps_ret (pe_meth (pv 0) T.clT GS.m GS.ok hr3 GS.b .nil pass0 (pa_cons (pv 2) pa_nil)))) pss_nil)
      (pss_cons (ps_if (pt_cmpR op_eq (pv 1) pe_int (nomark _)) (pss_one (ps_ret (pe_meth (pv 0) T.clT GM.m GM.ok hr3 GM.b .nil pass0 (pa_cons (pe_ix ix_list (pv 2) pe_int (fun _ _ => rfl)) (pa_cons (pv 3) pa_nil))))) pss_nil)
      (pss_cons (ps_if (PW.pt (pw_and (pt_cmpR op_eq (pv 1) pe_int (nomark _)) (pw_and1 (pt_cmpR op_gt (pe_ix ix_list (pv 2) pe_int (fun _ _ => rfl)) (pe_glob (v := .int 1000000000000000) (by rfl) cL ⟨_, rfl⟩) (nomark _)))))
        (pss_one (ps_ret (pe_lst (pa_cons (pe_glob (v := .int (-1)) (by rfl) cR ⟨_, rfl⟩) pa_nil)))) pss_nil)
      (pss_cons (ps_set (i := 4) scAnswer.nd rfl (Or.inl rfl) (pe_slice sl_list (pv 2) po_none (po_some (pe_op op_add pe_int (pe_callTy call_int1 (by rfl) T.int (by decide +kernel) (pa_cons (pe_cmpR op_lt (pv 1) pe_int (nomark _)) pa_nil))))))
      (pss_cons (ps_set (i := 5) scAnswer.nd rfl (Or.inl rfl) (pe_meth (pv 0) T.clT GR.m GR.ok hr1 GR.b .nil pass0 (pa_cons (pv 4) pa_nil)))
      (pss_cons (ps_if (pt_cmpR op_lt (pv 5) pe_int (nomark _)) (pss_one (ps_ret (pe_lst (pa_cons (pv 5) pa_nil)))) pss_nil)
      (pss_cons (ps_if (pt_cmpR op_eq (pv 1) pe_int (nomark _)) (pss_one (ps_ret (pe_lst (pa_cons (pe_call GF.ok hr2 (by rfl) GF.mg GF.kp GF.b .nil pass0 (pa_cons (pe_ix ix_list (pe_fld (pv 0) rfl) (pe_ix ix_list (pv 2) pe_int (fun _ _ => rfl)) (fun _ _ => rfl)) pa_nil)) pa_nil)))) pss_nil)
      (pss_cons (ps_if (pt_cmpR op_eq (pv 1) pe_int (nomark _))
        (pss_cons (ps_asg (pe_call GB.ok hr3 (by rfl) GB.mg GB.kp GB.b .nil pass0 (pa_cons (pe_ix ix_list (pe_fld (pv 0) rfl) (pe_ix ix_list (pv 2) pe_int (fun _ _ => rfl)) (fun _ _ => rfl)) (pa_cons (pe_fld (pv 0) rfl) pa_nil)))
          (pg_tup (by rfl) (pgs_cons (pg_name (i := 6) scAnswer.nd rfl (Or.inl rfl)) (pgs_cons (pg_name (i := 7) scAnswer.nd rfl (Or.inl rfl)) pgs_nil))))
        (pss_one (ps_ret (pe_lst (pa_cons pe_int (pa_cons (pe_op op_mod (pv 6) (pe_glob (v := .int 18446744073709551616) (by rfl) cW ⟨_, rfl⟩)) (pa_cons (pv 7) pa_nil))))))) pss_nil)
      (pss_one (ps_ret (pe_meth (pv 0) T.clT GT.m GT.ok hr GT.b .nil pass0 (pa_cons (pv 1) (pa_cons (pe_ix ix_list (pv 2) pe_int (fun _ _ => rfl)) (pa_cons (pe_ix ix_list (pv 2) pe_int (fun _ _ => rfl)) (pa_cons (pe_ix ix_list (pv 2) (pe_un un_neg pe_int) (fun _ _ => rfl)) pa_nil))))))))))))))), ?_⟩
    obtain ⟨dx, pp, lm, ws, tab⟩ := hT
    have hT' : TableAt CM CP CT G t s := ⟨dx, pp, lm, ws, tab⟩
    have ht := sG _ _ tab.tb
    have noM : ∀ m : Str, (m == ("pay" : Str)) = false → (m == ("machines" : Str)) = false → (f2 "pay" "machines" (V.ref pp) (V.ref lm)).lookup m = none := fun m h1 h2 => f2_no h1 h2
    cases ask with
    | init =>
      refine ⟨_, rfl, rfl, _, rfl, iteEqT ?_⟩
      refine fun x dp hx hdp ne => ⟨x, dp, 3, 0, 5, 1, rfl, upd_same, fun H1 pa k1 => ⟨rfl, ?_⟩⟩
      have s1 : Same H H1 := Same.made hx hdp k1
      refine ⟨_, rfl, t, CT, dx, _, rfl, s1 _ _ ht, T.clT, T.nP, (by show 2 < 1000; decide), ?_⟩
      rw [f2_put1]
      generalize hH2 : upd H1 t (.ins CT dx (f2 "pay" "machines" (.ref x) (.ref lm))) = H2
      have ht2 : H2 t = some (.ins CT dx (f2 "pay" "machines" (.ref x) (.ref lm))) := by rw [← hH2]; exact upd_same
      have k2 : ∀ b o, H1 b = some o → b ≠ t → H2 b = some o := fun b o e hb => by rw [← hH2, upd_ne hb]; exact e
      have fr2 : ∀ b, H2 b = none → H b = none := fun b e => by
        cases q : H b with
        | none => rfl
        | some ob =>
          by_cases c : b = t
          · rw [c, ht2] at e; cases e
          · rw [k2 _ _ (s1 _ _ q) c] at e; cases e
      refine ⟨(by show 1 ≤ sizeLine; decide), fun l hl => ⟨l, 8, _, rfl, rfl, upd_same, by decide, by decide, (by show 1 * 8 ≤ sizeLine; decide), fun lm' hlm => ?_⟩⟩
      rw [none8]
      have hlm2 : H2 lm' = none := (same_upd hl).free hlm
      have nlt : t ≠ lm' := ne_of_none ht2 hlm2
      have nlt' : t ≠ l := ne_of_none ht2 hl
      refine ⟨_, rfl, t, CT, dx, _, rfl, by rw [upd_ne nlt, upd_ne nlt']; exact ht2, T.clT, T.nMs, (by show 2 < 1000; decide), ?_⟩
      rw [f2_put2 (by decide +kernel)]
      generalize hH3 : upd (upd (upd H2 l (.lst [V.non])) lm' (.lst (List.replicate 8 V.non))) t (.ins CT dx (f2 "pay" "machines" (.ref x) (.ref lm'))) = H3
      have k3 : ∀ b o, H2 b = some o → b ≠ t → H3 b = some o := fun b o e hb => by
        rw [← hH3, upd_ne hb, upd_ne (ne_of_none e hlm2), upd_ne (ne_of_none e hl)]; exact e
      have ht3 : H3 t = some (.ins CT dx (f2 "pay" "machines" (.ref x) (.ref lm'))) := by rw [← hH3]; exact upd_same
      have hl3 : H3 lm' = some (.lst (List.replicate 8 V.non)) := by rw [← hH3, upd_ne (fun e => nlt e.symm)]; exact upd_same
      refine ⟨(by show 1 ≤ sizeLine; decide), fun r hr' => ?_⟩
      generalize hH4 : upd H3 r (.lst [V.int 0]) = H4
      have k4 : ∀ b o, H3 b = some o → H4 b = some o := fun b o e => by rw [← hH4, upd_ne (ne_of_none e hr')]; exact e
      have kk : ∀ b o, H b = some o → b ≠ t → H4 b = some o := fun b o e hb => k4 _ _ (k3 _ _ (k2 _ _ (s1 _ _ e) hb) hb)
      have hr0 : H r = none := by
        cases q : H r with
        | none => rfl
        | some ob =>
          by_cases c : r = t
          · rw [c, ht3] at hr'; cases hr'
          · rw [k3 _ _ (k2 _ _ (s1 _ _ q) c) c] at hr'; cases hr'
      have hGt : G t ≠ none := fun q => by rw [tab.tb] at q; cases q
      refine k H4 r (gw G H H4) (Left.gw fun b o e hb => kk _ _ e (fun q => hGt (by rw [← q]; exact hb))) ⟨dx, x, lm', List.replicate 8 V.non, ?_, ?_, ?_, rfl, rfl, ?_⟩ (by rw [← hH4]; exact upd_same) hr0
      · rw [gw_at (.inl (by rw [tab.tb]; rfl))]
        exact k4 _ _ ht3
      · rw [gw_at (.inr (fr2 _ hlm2))]
        exact k4 _ _ hl3
      · refine pa.same fun b o e => ?_
        obtain ⟨e1, e2⟩ := nw_in e
        have e3 := made_fresh hx e1
        have nbt : b ≠ t := fun q => by rw [q, ht] at e3; cases e3
        have e4 := k2 _ _ e2 nbt
        have nbl : b ≠ lm' := fun q => by rw [q, hlm2] at e4; cases e4
        rw [beside_at nbt nbl, gw_at (.inr e3)]
        exact k4 _ _ (k3 _ _ e4 nbt)
      · intro i v A q1 q2
        exact .inl ⟨rep8_get q1, rep8_getM q2⟩
    | pay a b c d =>
      refine ⟨_, rfl, rfl, _, rfl, iteEqF (by decide) ?_⟩
      refine ⟨_, rfl, rfl, _, rfl, iteEqT ?_⟩
      exact ⟨_, rfl, t, dx, _, rfl, ht, noM _ (by decide +kernel) (by decide +kernel), _, rfl, t, nl, a, b, c, d, s, G, rfl, hnl, sG, hT', k⟩
    | machine i _ nn hl =>
      refine ⟨_, rfl, rfl, _, rfl, iteEqF (by decide) ?_⟩
      refine ⟨_, rfl, rfl, _, rfl, iteEqF (by decide) ?_⟩
      refine ⟨_, rfl, rfl, _, rfl, iteEqT ?_⟩
      exact ⟨_, rfl, t, dx, _, rfl, ht, noM _ (by decide +kernel) (by decide +kernel), _, rfl, nl, _, 0, _, rfl, rfl, hnl, atI_nat (j := 0) rfl, _, rfl, t, sl, i, ss, s, G, rfl, hsl, nn, hl, sG, hT', k⟩
    | play i j kk h0 =>
      refine ⟨_, rfl, rfl, _, rfl, iteEqF (by decide) ?_⟩
      refine ⟨_, rfl, rfl, _, rfl, iteEqF (by decide) ?_⟩
      refine ⟨_, rfl, rfl, _, rfl, iteEqF (by decide) ?_⟩
      refine ⟨_, rfl, rfl, _, rfl, iteEqT ?_⟩
      refine ⟨_, rfl, nl, _, 2, _, rfl, rfl, hnl, atI_nat (j := 2) rfl, _, _, rfl, rfl, _, rfl, ?_⟩
      refine itd (fun c => ?_) (fun c0 => ?_)
      · have ed := far_play (s := s) (i := i) (j := j) c
        rw [ed] at k
        exact ⟨(by show 1 ≤ sizeLine; decide), fun r hr' => k _ r G (Left.pure sG (same_upd hr')) hT' upd_same hr'⟩
      have h1 : kk ≤ 1000000000000000 := by omega
      refine ⟨_, rfl, _, rfl, _, _, rfl, rfl, .inr ⟨_, rfl, _, _, rfl, rfl, 2, rfl, nl, _, rfl, hnl, fun so hso => ?_⟩⟩
      rw [show cutV (lI [i, j, kk]) none (some 2) = lI [i, j] from rfl]
      generalize hH1 : upd H so (.lst (lI [i, j])) = H1
      have s1 : Same H H1 := by rw [← hH1]; exact same_upd hso
      have hso1 : H1 so = some (.lst (lI [i, j])) := by rw [← hH1]; exact upd_same
      refine ⟨_, rfl, t, dx, _, rfl, s1 _ _ ht, noM _ (by decide +kernel) (by decide +kernel), _, rfl, t, so, [i, j], s, rfl, SqL.of hso1, by simp, hT'.same (sG.trans s1), fun H2 s2 => ?_⟩
      have s02 := s1.trans s2
      refine ⟨_, rfl, _, _, rfl, rfl, _, rfl, ?_⟩
      refine itd (fun c => ?_) (fun c => ?_)
      · have ed := ask_no (s := s) (AskM.play i j kk h0 h1) c
        rw [ed] at k
        refine ⟨_, rfl, (by show 1 ≤ sizeLine; decide), fun r hr' => k _ r G (Left.pure sG (same_into s02 (s02.free hr'))) hT' upd_same (s02.free hr')⟩
      obtain ⟨bb, tt⟩ := refu2_ok c
      have tab2 := (hT'.same (sG.trans s02))
      refine ⟨_, rfl, rfl, _, rfl, iteEqF (by decide) ?_⟩
      refine ⟨_, rfl, rfl, _, rfl, iteEqF (by decide) ?_⟩
      refine ⟨_, rfl, t, dx, _, rfl, s02 _ _ ht, noM _ (by decide +kernel) (by decide +kernel), _, rfl, _, rfl, nl, _, 0, _, rfl, rfl, s02.seq hnl, atI_nat (j := 0) rfl, _, rfl, nl, _, 1, _, rfl, rfl, s02.seq hnl, atI_nat (j := 1) rfl, _, rfl, _, rfl, nl, _, _, (V.int kk), rfl, rfl, s02.seq hnl, rfl,
        t, 3, i, j, kk, s, rfl, tab2, bb.1, bb.2, tt.1, tt.2, (fun _ => ⟨h0, h1⟩), fun H3 r s3 hr3 hn3 => ?_⟩
      obtain ⟨e1, e2⟩ := yes_play (s := s) h1 bb tt
      rw [e1, e2] at k
      exact k H3 r G (Left.pure sG (s02.trans s3)) hT' hr3 (s02.free hn3)
    | turn i j =>
      refine ⟨_, rfl, rfl, _, rfl, iteEqF (by decide) ?_⟩
      refine ⟨_, rfl, rfl, _, rfl, iteEqF (by decide) ?_⟩
      refine ⟨_, rfl, rfl, _, rfl, iteEqF (by decide) ?_⟩
      refine ⟨_, rfl, rfl, _, rfl, iteEqF (by decide) (iteF ?_)⟩
      refine ⟨_, rfl, _, rfl, _, _, rfl, rfl, .inr ⟨_, rfl, _, _, rfl, rfl, 2, rfl, nl, _, rfl, hnl, fun so hso => ?_⟩⟩
      rw [show cutV (lI [i, j]) none (some 2) = lI [i, j] from rfl]
      generalize hH1 : upd H so (.lst (lI [i, j])) = H1
      have s1 : Same H H1 := by rw [← hH1]; exact same_upd hso
      have hso1 : H1 so = some (.lst (lI [i, j])) := by rw [← hH1]; exact upd_same
      refine ⟨_, rfl, t, dx, _, rfl, s1 _ _ ht, noM _ (by decide +kernel) (by decide +kernel), _, rfl, t, so, [i, j], s, rfl, SqL.of hso1, by simp, hT'.same (sG.trans s1), fun H2 s2 => ?_⟩
      have s02 := s1.trans s2
      refine ⟨_, rfl, _, _, rfl, rfl, _, rfl, ?_⟩
      refine itd (fun c => ?_) (fun c => ?_)
      · have ed := ask_no (s := s) (AskM.turn i j) c
        rw [ed] at k
        refine ⟨_, rfl, (by show 1 ≤ sizeLine; decide), fun r hr' => k _ r G (Left.pure sG (same_into s02 (s02.free hr'))) hT' upd_same (s02.free hr')⟩
      obtain ⟨bb, tt⟩ := refu2_ok c
      have tab2 := (hT'.same (sG.trans s02))
      refine ⟨_, rfl, rfl, _, rfl, iteEqF (by decide) ?_⟩
      refine ⟨_, rfl, rfl, _, rfl, iteEqF (by decide) ?_⟩
      refine ⟨_, rfl, t, dx, _, rfl, s02 _ _ ht, noM _ (by decide +kernel) (by decide +kernel), _, rfl, _, rfl, nl, _, 0, _, rfl, rfl, s02.seq hnl, atI_nat (j := 0) rfl, _, rfl, nl, _, 1, _, rfl, rfl, s02.seq hnl, atI_nat (j := 1) rfl, _, rfl, _, rfl, nl, _, _, (V.int j), rfl, rfl, s02.seq hnl, rfl,
        t, 4, i, j, j, s, rfl, tab2, bb.1, bb.2, tt.1, tt.2, (fun q => absurd q (by decide)), fun H3 r s3 hr3 hn3 => ?_⟩
      obtain ⟨e1, e2⟩ := yes_turn (s := s) bb tt j
      rw [e1, e2] at k
      exact k H3 r G (Left.pure sG (s02.trans s3)) hT' hr3 (s02.free hn3)
    | moves i j mm =>
      refine ⟨_, rfl, rfl, _, rfl, iteEqF (by decide) ?_⟩
      refine ⟨_, rfl, rfl, _, rfl, iteEqF (by decide) ?_⟩
      refine ⟨_, rfl, rfl, _, rfl, iteEqF (by decide) ?_⟩
      refine ⟨_, rfl, rfl, _, rfl, iteEqF (by decide) (iteF ?_)⟩
      refine ⟨_, rfl, _, rfl, _, _, rfl, rfl, .inr ⟨_, rfl, _, _, rfl, rfl, 2, rfl, nl, _, rfl, hnl, fun so hso => ?_⟩⟩
      rw [show cutV (lI [i, j, mm]) none (some 2) = lI [i, j] from rfl]
      generalize hH1 : upd H so (.lst (lI [i, j])) = H1
      have s1 : Same H H1 := by rw [← hH1]; exact same_upd hso
      have hso1 : H1 so = some (.lst (lI [i, j])) := by rw [← hH1]; exact upd_same
      refine ⟨_, rfl, t, dx, _, rfl, s1 _ _ ht, noM _ (by decide +kernel) (by decide +kernel), _, rfl, t, so, [i, j], s, rfl, SqL.of hso1, by simp, hT'.same (sG.trans s1), fun H2 s2 => ?_⟩
      have s02 := s1.trans s2
      refine ⟨_, rfl, _, _, rfl, rfl, _, rfl, ?_⟩
      refine itd (fun c => ?_) (fun c => ?_)
      · have ed := ask_no (s := s) (AskM.moves i j mm) c
        rw [ed] at k
        refine ⟨_, rfl, (by show 1 ≤ sizeLine; decide), fun r hr' => k _ r G (Left.pure sG (same_into s02 (s02.free hr'))) hT' upd_same (s02.free hr')⟩
      obtain ⟨bb, tt⟩ := refu2_ok c
      have tab2 := (hT'.same (sG.trans s02))
      refine ⟨_, rfl, rfl, _, rfl, iteEqF (by decide) ?_⟩
      refine ⟨_, rfl, rfl, _, rfl, iteEqF (by decide) ?_⟩
      refine ⟨_, rfl, t, dx, _, rfl, s02 _ _ ht, noM _ (by decide +kernel) (by decide +kernel), _, rfl, _, rfl, nl, _, 0, _, rfl, rfl, s02.seq hnl, atI_nat (j := 0) rfl, _, rfl, nl, _, 1, _, rfl, rfl, s02.seq hnl, atI_nat (j := 1) rfl, _, rfl, _, rfl, nl, _, _, (V.int mm), rfl, rfl, s02.seq hnl, rfl,
        t, 5, i, j, mm, s, rfl, tab2, bb.1, bb.2, tt.1, tt.2, (fun q => absurd q (by decide)), fun H3 r s3 hr3 hn3 => ?_⟩
      obtain ⟨e1, e2⟩ := yes_moves (s := s) (m := mm) bb tt
      rw [e1, e2] at k
      exact k H3 r G (Left.pure sG (s02.trans s3)) hT' hr3 (s02.free hn3)
    | same i j =>
      refine ⟨_, rfl, rfl, _, rfl, iteEqF (by decide) ?_⟩
      refine ⟨_, rfl, rfl, _, rfl, iteEqF (by decide) ?_⟩
      refine ⟨_, rfl, rfl, _, rfl, iteEqF (by decide) ?_⟩
      refine ⟨_, rfl, rfl, _, rfl, iteEqF (by decide) (iteF ?_)⟩
      refine ⟨_, rfl, _, rfl, _, _, rfl, rfl, .inr ⟨_, rfl, _, _, rfl, rfl, 2, rfl, nl, _, rfl, hnl, fun so hso => ?_⟩⟩
      rw [show cutV (lI [i, j]) none (some 2) = lI [i, j] from rfl]
      generalize hH1 : upd H so (.lst (lI [i, j])) = H1
      have s1 : Same H H1 := by rw [← hH1]; exact same_upd hso
      have hso1 : H1 so = some (.lst (lI [i, j])) := by rw [← hH1]; exact upd_same
      refine ⟨_, rfl, t, dx, _, rfl, s1 _ _ ht, noM _ (by decide +kernel) (by decide +kernel), _, rfl, t, so, [i, j], s, rfl, SqL.of hso1, by simp, hT'.same (sG.trans s1), fun H2 s2 => ?_⟩
      have s02 := s1.trans s2
      refine ⟨_, rfl, _, _, rfl, rfl, _, rfl, ?_⟩
      refine itd (fun c => ?_) (fun c => ?_)
      · have ed := ask_no (s := s) (AskM.same i j) c
        rw [ed] at k
        refine ⟨_, rfl, (by show 1 ≤ sizeLine; decide), fun r hr' => k _ r G (Left.pure sG (same_into s02 (s02.free hr'))) hT' upd_same (s02.free hr')⟩
      obtain ⟨bb, tt⟩ := refu2_ok c
      have tab2 := (hT'.same (sG.trans s02))
      refine ⟨_, rfl, rfl, _, rfl, iteEqF (by decide) ?_⟩
      refine ⟨_, rfl, rfl, _, rfl, iteEqF (by decide) ?_⟩
      refine ⟨_, rfl, t, dx, _, rfl, s02 _ _ ht, noM _ (by decide +kernel) (by decide +kernel), _, rfl, _, rfl, nl, _, 0, _, rfl, rfl, s02.seq hnl, atI_nat (j := 0) rfl, _, rfl, nl, _, 1, _, rfl, rfl, s02.seq hnl, atI_nat (j := 1) rfl, _, rfl, _, rfl, nl, _, _, (V.int j), rfl, rfl, s02.seq hnl, rfl,
        t, 6, i, j, j, s, rfl, tab2, bb.1, bb.2, tt.1, tt.2, (fun q => absurd q (by decide)), fun H3 r s3 hr3 hn3 => ?_⟩
      obtain ⟨e1, e2⟩ := yes_same (s := s) bb tt j
      rw [e1, e2] at k
      exact k H3 r G (Left.pure sG (s02.trans s3)) hT' hr3 (s02.free hn3)
    | least i =>
      refine ⟨_, rfl, rfl, _, rfl, iteEqF (by decide) ?_⟩
      refine ⟨_, rfl, rfl, _, rfl, iteEqF (by decide) ?_⟩
      refine ⟨_, rfl, rfl, _, rfl, iteEqF (by decide) ?_⟩
      refine ⟨_, rfl, rfl, _, rfl, iteEqF (by decide) (iteF ?_)⟩
      refine ⟨_, rfl, _, rfl, _, _, rfl, rfl, .inr ⟨_, rfl, _, _, rfl, rfl, 1, rfl, nl, _, rfl, hnl, fun so hso => ?_⟩⟩
      rw [show cutV (lI [i]) none (some 1) = lI [i] from rfl]
      generalize hH1 : upd H so (.lst (lI [i])) = H1
      have s1 : Same H H1 := by rw [← hH1]; exact same_upd hso
      have hso1 : H1 so = some (.lst (lI [i])) := by rw [← hH1]; exact upd_same
      refine ⟨_, rfl, t, dx, _, rfl, s1 _ _ ht, noM _ (by decide +kernel) (by decide +kernel), _, rfl, t, so, [i], s, rfl, SqL.of hso1, by simp, hT'.same (sG.trans s1), fun H2 s2 => ?_⟩
      have s02 := s1.trans s2
      refine ⟨_, rfl, _, _, rfl, rfl, _, rfl, ?_⟩
      refine itd (fun c => ?_) (fun c => ?_)
      · have ed := ask_no (s := s) (AskM.least i) c
        rw [ed] at k
        refine ⟨_, rfl, (by show 1 ≤ sizeLine; decide), fun r hr' => k _ r G (Left.pure sG (same_into s02 (s02.free hr'))) hT' upd_same (s02.free hr')⟩
      obtain ⟨bb, tt⟩ := refu1_ok c
      have tab2 := tab.same (sG.trans s02)
      obtain ⟨ni, vi, ei, hvi, ri, _⟩ := tab2.at bb
      obtain ⟨ma, rfl, oA, mA0⟩ := row_there ri tt
      have sb : Same (beside H2 t lm) H2 := fun b o e => (beside_in e).2.2
      refine ⟨_, rfl, rfl, _, rfl, iteEqT ?_⟩
      have ed := yes_least (s := s) ⟨bb, tt⟩
      rw [ed] at k
      refine ⟨_, rfl, t, CT, dx, _, _, rfl, s02 _ _ ht, T.clT, T.nMs, f2_snd (by decide +kernel), _, rfl, nl, _, 0, _, rfl, rfl, s02.seq hnl, atI_nat (j := 0) rfl, lm, _, _, _, rfl, rfl, SqL.of tab2.li, at_of (j := ni) ei hvi, ma, _, rfl, mA0.same sb, oA, fun H3 s3 => ⟨(by show 1 ≤ sizeLine; decide), fun r hr' => k _ r G (Left.pure sG ?_) hT' upd_same ?_⟩⟩
      · exact same_into (s02.trans s3) ((s02.trans s3).free hr')
      · exact (s02.trans s3).free hr'
    | best i =>
      refine ⟨_, rfl, rfl, _, rfl, iteEqF (by decide) ?_⟩
      refine ⟨_, rfl, rfl, _, rfl, iteEqF (by decide) ?_⟩
      refine ⟨_, rfl, rfl, _, rfl, iteEqF (by decide) ?_⟩
      refine ⟨_, rfl, rfl, _, rfl, iteEqF (by decide) (iteF ?_)⟩
      refine ⟨_, rfl, _, rfl, _, _, rfl, rfl, .inr ⟨_, rfl, _, _, rfl, rfl, 1, rfl, nl, _, rfl, hnl, fun so hso => ?_⟩⟩
      rw [show cutV (lI [i]) none (some 1) = lI [i] from rfl]
      generalize hH1 : upd H so (.lst (lI [i])) = H1
      have s1 : Same H H1 := by rw [← hH1]; exact same_upd hso
      have hso1 : H1 so = some (.lst (lI [i])) := by rw [← hH1]; exact upd_same
      refine ⟨_, rfl, t, dx, _, rfl, s1 _ _ ht, noM _ (by decide +kernel) (by decide +kernel), _, rfl, t, so, [i], s, rfl, SqL.of hso1, by simp, hT'.same (sG.trans s1), fun H2 s2 => ?_⟩
      have s02 := s1.trans s2
      refine ⟨_, rfl, _, _, rfl, rfl, _, rfl, ?_⟩
      refine itd (fun c => ?_) (fun c => ?_)
      · have ed := ask_no (s := s) (AskM.best i) c
        rw [ed] at k
        refine ⟨_, rfl, (by show 1 ≤ sizeLine; decide), fun r hr' => k _ r G (Left.pure sG (same_into s02 (s02.free hr'))) hT' upd_same (s02.free hr')⟩
      obtain ⟨bb, tt⟩ := refu1_ok c
      have tab2 := tab.same (sG.trans s02)
      obtain ⟨ni, vi, ei, hvi, ri, _⟩ := tab2.at bb
      obtain ⟨ma, rfl, oA, mA0⟩ := row_there ri tt
      have sb : Same (beside H2 t lm) H2 := fun b o e => (beside_in e).2.2
      refine ⟨_, rfl, rfl, _, rfl, iteEqF (by decide) ?_⟩
      refine ⟨_, rfl, rfl, _, rfl, iteEqT ?_⟩
      have ed := yes_best (s := s) ⟨bb, tt⟩
      rw [ed] at k
      refine ⟨_, rfl, t, CT, dx, _, _, rfl, s02 _ _ ht, T.clT, T.nMs, f2_snd (by decide +kernel), _, rfl, nl, _, 0, _, rfl, rfl, s02.seq hnl, atI_nat (j := 0) rfl, lm, _, _, _, rfl, rfl, SqL.of tab2.li, at_of (j := ni) ei hvi, _, rfl, t, CT, dx, _, _, rfl, s02 _ _ ht, T.clT, T.nP, f2_fst,
        ma, pp, _, s.pay, rfl, mA0.same sb, tab2.pay.same sb, oA, fun H3 tp s3 htp => ?_⟩
      have s03 := s02.trans s3
      refine ⟨tp, _, rfl, SqT.of htp, rfl, _, _, rfl, _, _, rfl, rfl, ?_⟩
      refine ⟨_, rfl, _, _, rfl, rfl, (by show (0 : Int) < 18446744073709551616; decide), _, rfl, (by show 3 ≤ sizeLine; decide), fun r hr' => k _ r G (Left.pure sG (same_into s03 (s03.free hr'))) hT' ?_ (s03.free hr')⟩
      rw [upd_same]
      show some (HO.lst [V.int 0, V.int ((Rc89.best s.pay (Rc89.machine s i)).1 % 18446744073709551616), V.int ((Rc89.best s.pay (Rc89.machine s i)).2 : Nat)]) = _
      rw [bits_is]
      rfl
end
end Gt
/-! ## GtD21 -/
namespace Gt
open PySem PySem.Spec PyProof.Rows L2
open Rc89 (act next again since path)
theorem cut_mid {pre mid post : List Int} {lo hi : Int} (h1 : lo = (pre.length : Int)) (h2 : hi = ((pre.length + mid.length : Nat) : Int)) : cutV (lI (pre ++ (mid ++ post))) (some lo) (some hi) = lI mid := by
  subst h1 h2
  unfold cutV lI
  rw [HT.sIx_nat, HT.sIx_nat, List.length_map, List.length_append, List.length_append, Nat.min_eq_left (by omega), Nat.min_eq_left (by omega), ← List.map_drop, ← List.map_take, List.drop_left, Nat.add_sub_cancel_left, List.take_left]
theorem asked_cnt {p : Int} {xs ss : List Int} {x : Rc89.Call} (h : Asked p xs ss x) : ∃ j : Nat, p = (j : Int) ∧ (lI [0, 4, 1, 3, 2, 3, 2, 1, 1])[j]? = some (.int (xs.length : Nat)) := by
  cases h
  · exact ⟨0, rfl, rfl⟩
  · exact ⟨1, rfl, rfl⟩
  · exact ⟨2, rfl, rfl⟩
  · exact ⟨3, rfl, rfl⟩
  · exact ⟨4, rfl, rfl⟩
  · exact ⟨5, rfl, rfl⟩
  · exact ⟨6, rfl, rfl⟩
  · exact ⟨7, rfl, rfl⟩
  · exact ⟨8, rfl, rfl⟩
section
variable {P : Program} {w : World} {K : PySem.W.Frag} {mg : Str → Option Value} {base : Heap} {CM CP CX CT : Addr}
/-! ### answers -/
def spAnswers (K : PySem.W.Frag) : Sp := fun vs H Q _ => ∃ (a : Addr) (l : List Int), vs = [.ref a] ∧ SqL K H a (lI l) ∧ PyRc89.answers_asked l = true ∧ ∀ (H' : Hp) (p : Addr), H' p = some (.lst (lI (PyRc89.answers l))) → Q (.ref p) H'
theorem scAnswers : FnScope ["calls", "table", "told", "at", "deed", "middle", "numbers", "states", "some"] ["calls"] (defScope sAnswers) := ⟨rfl, rfl, rfl, by decide +kernel, rfl, by decide +kernel, by decide +kernel⟩
/-- between two calls: what stood at the beginning stands, the table stands in G -/
structure AnsInv (CM CP CT : Addr) (H0 : Hp) (l : List Int) (t q : Addr) (H : Hp) (G : Hp) (pre rest : List Int) (cs : List Rc89.Call) (s : Rc89.Abs) (out : List Int) : Prop where
  eq : l = pre ++ rest
  rd : Reads rest cs
  an : PyRc89.answers l = out ++ PyFlat.told (played s cs)
  q0 : H0 q = none
  sm : Same H0 H
  g0 : ∀ b o, H0 b = some o → G b = none
  gq : G q = none
  sG : Same G H
  tb : TableAt CM CP CT G t s
  li : H q = some (.lst (lI out))
theorem AnsInv.grow {CM CP CT : Addr} {H0 H H' G : Hp} {l : List Int} {t q : Addr} {pre rest : List Int} {cs : List Rc89.Call} {s : Rc89.Abs} {out : List Int} (h : AnsInv CM CP CT H0 l t q H G pre rest cs s out) (e : Same H H') : AnsInv CM CP CT H0 l t q H' G pre rest cs s out :=
  ⟨h.eq, h.rd, h.an, h.q0, h.sm.trans e, h.g0, h.gq, h.sG.trans e, h.tb, e _ _ h.li⟩
/-- one call more -/
theorem AnsInv.next {CM CP CT : Addr} {H0 H H' G G' : Hp} {l : List Int} {t q : Addr} {pre mid rest' : List Int} {x : Rc89.Call} {cs : List Rc89.Call} {s : Rc89.Abs} {out : List Int} (h : AnsInv CM CP CT H0 l t q H G pre (mid ++ rest') (x :: cs) s out) (rd : Reads rest' cs) (L : Left G H H' G') (tb : TableAt CM CP CT G' t (Rc89.does s x).1) :
    AnsInv CM CP CT H0 l t q (upd H' q (.lst (lI (out ++ ((ans (Rc89.does s x).2).length : Int) :: ans (Rc89.does s x).2)))) G' (pre ++ mid) rest' cs (Rc89.does s x).1 (out ++ ((ans (Rc89.does s x).2).length : Int) :: ans (Rc89.does s x).2) := by
  have gq : G' q = none := by
    cases e : G' q with
    | none => rfl
    | some ob =>
      rcases L.new q ob e with z | z
      · rw [h.gq] at z; cases z
      · rw [h.li] at z; cases z
  refine ⟨by rw [h.eq, List.append_assoc], rd, ?_, h.q0, ?_, ?_, gq, same_into L.sub gq, tb, upd_same⟩
  · rw [h.an]
    show out ++ PyFlat.told (ans (Rc89.does s x).2 :: played (Rc89.does s x).1 cs) = _
    rw [told_cons, List.append_assoc]
    rfl
  · intro b ob e
    have e1 := h.sm _ _ e
    have e2 := L.out _ _ e1 (h.g0 _ _ e)
    by_cases c : b = q
    · rw [c, h.q0] at e; cases e
    · rw [upd_ne c]; exact e2
  · intro b ob e
    cases z : G' b with
    | none => rfl
    | some u =>
      rcases L.new b u z with y | y
      · rw [h.g0 _ _ e] at y; cases y
      · rw [h.sm _ _ e] at y; cases y
theorem ok_answers {f fI fA : Addr} {fd fdI fdA : FuncData} (F : Fun K "answers" "answers" sAnswers f fd) (T : Txt K mg CM CP CX CT) (GI : Nw P w K mg base CT "Table" 3 ["self"] (spTInit CM CP CT) fI fdI) (GA : Md P w K mg base CT "answer" 5 ["self", "deed", "numbers", "states"] (spAnswer K CM CP CT) fA fdA) :
    FnOk P w K mg base CX0 6 f fd ["calls"] (spAnswers K) := by
  refine F.ok scAnswers (fun vs H Q E h => ?_) (fun cdv Ar outer s H vs Q E hr h => ?_)
  · obtain ⟨a, l, rfl, _⟩ := h
    rfl
  · obtain ⟨a, l, rfl, ha, hask, k⟩ := h
    obtain ⟨aN, gN, hN⟩ := T.cNum
    have hr4 : Room 4 _ := hr.mono (by decide)
    refine ⟨_, pss_cons (ps_set (i := 1) scAnswers.nd rfl (Or.inl rfl) (pe_make0 GI.mc GI.ok hr4 (by rfl) GI.mg GI.b .nil pass0))
      (pss_cons (ps_set (i := 2) scAnswers.nd rfl (Or.inl rfl) (pe_lst pa_nil))
      (pss_cons (ps_set (i := 3) scAnswers.nd rfl (Or.inl rfl) pe_int)
      (pss_cons (ps_while PassesOwn.never (pt_cmpR op_lt (pv 3) (pe_callB call_len_seq (by rfl) T.len PySem.boot_len (pa_cons (pv 0) pa_nil)) (nomark _))
        (pss_cons (ps_set (i := 4) scAnswers.nd rfl (Or.inl rfl) (pe_ix ix_list (pv 0) (pv 3) (fun _ _ => rfl)))
        (pss_cons (ps_set (i := 5) scAnswers.nd rfl (Or.inl rfl) (pe_op op_add (pe_op op_add (pv 3) pe_int) (pe_ix ix_tup (pe_glob (v := .ref aN) (by rfl) gN rfl) (pv 4) (fun _ _ => rfl))))
        (pss_cons (ps_set (i := 6) scAnswers.nd rfl (Or.inl rfl) (pe_slice sl_list (pv 0) (po_some (pe_op op_add (pv 3) pe_int)) (po_some (pv 5))))
        (pss_cons (ps_set (i := 7) scAnswers.nd rfl (Or.inl rfl) (pe_lst pa_nil))
        (pss_cons (ps_set (i := 3) scAnswers.nd rfl (Or.inl rfl) (pv 5))
        (pss_cons (ps_if (pt_cmpR op_eq (pv 4) pe_int (nomark _))
          (pss_cons (ps_set (i := 3) scAnswers.nd rfl (Or.inl rfl) (pe_op op_add (pe_op op_add (pv 5) pe_int) (pe_ix ix_list (pv 0) (pv 5) (fun _ _ => rfl))))
          (pss_one (ps_set (i := 7) scAnswers.nd rfl (Or.inl rfl) (pe_slice sl_list (pv 0) (po_some (pe_op op_add (pv 5) pe_int)) (po_some (pv 3)))))) pss_nil)
        (pss_cons (ps_set (i := 8) scAnswers.nd rfl (Or.inl rfl) (pe_meth (pv 1) T.clT GA.m GA.ok hr GA.b .nil pass0 (pa_cons (pv 4) (pa_cons (pv 6) (pa_cons (pv 7) pa_nil)))))
        (pss_cons (ps_expr (pe_bm PySem.F.plainAttrs_list PySem.F.slot_list_append PySem.F.type_list_append mt_append (pv 2) (pa_cons (pe_callB call_len_seq (by rfl) T.len PySem.boot_len (pa_cons (pv 8) pa_nil)) pa_nil)))
        (pss_one (ps_expr (pe_bm PySem.F.plainAttrs_list PySem.F.slot_list_extend PySem.F.type_list_extend mt_extend (pv 2) (pa_cons (pv 8) pa_nil)))))))))))))
      (pss_one (ps_ret (pv 2)))))), ?_⟩
    obtain ⟨cs0, rd0, an0, al⟩ := reads_of hask
    -- table = Table()
    refine fun t dx ht hdx ne => ⟨t, dx, rfl, upd_same, fun H1 tb k1 => ⟨rfl, ?_⟩⟩
    have s1 : Same H H1 := Same.made ht hdx k1
    -- told = []; at = 0
    refine ⟨Nat.zero_le _, fun q hq => ?_⟩
    have hq0 : H q = none := s1.free hq
    generalize hG : nw (upd (upd H dx (.own t)) t (.ins CT dx [])) H1 t = G at tb
    have g0 : ∀ b o, G b = some o → H b = none ∧ H1 b = some o := fun b o e => by
      rw [← hG] at e
      obtain ⟨e1, e2⟩ := nw_in e
      exact ⟨made_fresh ht e1, e2⟩
    have inv0 : AnsInv CM CP CT H l t q (upd H1 q (.lst [])) G [] l cs0 {} [] := by
      refine ⟨rfl, rd0, by rw [an0]; rfl, hq0, same_into s1 hq0, fun b o e => ?_, ?_, fun b o e => ?_, tb, upd_same⟩
      · cases z : G b with
        | none => rfl
        | some u => rw [(g0 b u z).1] at e; cases e
      · cases z : G q with
        | none => rfl
        | some u => rw [(g0 q u z).2] at hq; cases hq
      · have e2 := (g0 b o e).2
        rw [upd_ne (ne_of_none e2 hq)]
        exact e2
    refine while_m (fun m σ H' => ∃ (G : Hp) (pre rest : List Int) (cs : List Rc89.Call) (s : Rc89.Abs) (out : List Int) (v4 v5 v6 v7 v8 : Option V), m = rest.length ∧ σ = [some (.ref a), some (.ref t), some (.ref q), some (.int (pre.length : Nat)), v4, v5, v6, v7, v8] ∧ AnsInv CM CP CT H l t q H' G pre rest cs s out)
      l.length ⟨G, [], l, cs0, {}, [], none, none, none, none, none, rfl, rfl, inv0⟩ ?_
    rintro m σ H2 ⟨G, pre, rest, cs, s, out, v4, v5, v6, v7, v8, rfl, rfl, inv⟩
    have ha2 := inv.sm.seq ha
    refine ⟨_, rfl, _, rfl, a, _, rfl, .inl ha2, _, _, rfl, rfl, _, rfl, ?_⟩
    rw [lI_len l]
    have hlen : l.length = pre.length + rest.length := by rw [inv.eq, List.length_append]
    -- the call's end, for both forms
    have hrd := inv.rd
    cases hrd with
    | nil =>
      refine itd (fun c => by rw [hlen] at c; exact absurd c (by show ¬ ((pre.length : Nat) : Int) < ((pre.length + 0 : Nat) : Int); omega)) (fun c => ?_)
      refine ⟨_, rfl, k H2 q ?_⟩
      have := inv.an
      rw [show PyFlat.told (played s []) = [] from rfl, List.append_nil] at this
      rw [this]
      exact inv.li
    | plain hp ask rd =>
      rename_i p xs rest' x cs
      refine itd (fun c => ⟨_, fun σ' H' h => h, ?_⟩) (fun c => absurd (show ((pre.length : Nat) : Int) < (l.length : Int) by rw [hlen, List.length_cons]; omega) c)
      have el : l = (pre ++ [p]) ++ (xs ++ rest') := by rw [inv.eq, List.append_assoc]; rfl
      have hp1 : (pre ++ [p]).length = pre.length + 1 := by rw [List.length_append]; rfl
      have hdeed : (lI l)[pre.length]? = some (.int p) := lI_at (by rw [inv.eq, List.getElem?_append_right (Nat.le_refl _), Nat.sub_self]; rfl)
      obtain ⟨j, ej, hj⟩ := asked_cnt ask
      refine ⟨_, rfl, _, rfl, a, _, _, _, rfl, rfl, ha2, atI_nat hdeed, ?_⟩
      refine ⟨_, rfl, _, _, rfl, rfl, _, rfl, aN, _, _, _, rfl, rfl, hN H2, at_of ej hj, _, _, rfl, rfl, ?_⟩
      -- numbers
      refine ⟨_, rfl, _, rfl, _, _, rfl, rfl, (((pre ++ [p]).length : Nat) : Int), congrArg V.int (by rw [hp1]; rfl), _, rfl, (((pre ++ [p]).length + xs.length : Nat) : Int), congrArg V.int (by rw [hp1]; omega), a, _, rfl, ha2, fun nl hnl => ?_⟩
      have hcut : cutV (lI l) (some (((pre ++ [p]).length : Nat) : Int)) (some (((pre ++ [p]).length + xs.length : Nat) : Int)) = lI xs := by rw [el]; exact cut_mid rfl rfl
      rw [hcut]
      generalize hH3 : upd H2 nl (.lst (lI xs)) = H3
      have s23 : Same H2 H3 := by rw [← hH3]; exact same_upd hnl
      have hnl3 : H3 nl = some (.lst (lI xs)) := by rw [← hH3]; exact upd_same
      -- states = []; at = middle
      refine ⟨Nat.zero_le _, fun sl hsl => ?_⟩
      generalize hH4 : upd H3 sl (.lst []) = H4
      have s34 : Same H3 H4 := by rw [← hH4]; exact same_upd hsl
      have hsl5 : H4 sl = some (.lst (lI [])) := by rw [← hH4]; exact upd_same
      have hnl5 := s34 _ _ hnl3
      have inv5 := inv.grow (s23.trans s34)
      refine ⟨_, rfl, ?_⟩
      refine ⟨_, rfl, rfl, _, rfl, iteEqF hp ?_⟩
      obtain ⟨dT, pp, lm, ws, tab⟩ := inv5.tb
      have hlt : out.length + (1 + (ans (Rc89.does s x).2).length) ≤ 10000000 := by
        have := inv.an
        rw [show PyFlat.told (played s (x :: cs)) = PyFlat.told (ans (Rc89.does s x).2 :: played (Rc89.does s x).1 cs) from rfl, told_cons] at this
        rw [this, List.length_append, List.length_cons, List.length_append] at al
        omega
      refine ⟨_, rfl, t, dT, _, rfl, inv5.sG _ _ tab.tb, f2_no (by decide +kernel) (by decide +kernel), _, rfl, _, rfl, _, rfl, t, nl, sl, p, xs, [], x, s, G, rfl, SqL.of hnl5, SqL.of hsl5, ask, inv5.sG, inv5.tb, fun H6 r G' L tb6 hr6 hrn => ?_⟩
      have hq6 : H6 q = some (.lst (lI out)) := L.out _ _ inv5.li inv5.gq
      have nrq : r ≠ q := fun e => by rw [e, inv5.li] at hrn; cases hrn
      refine ⟨_, rfl, .inl ⟨rfl, _, SqL.of hq6⟩, _, rfl, r, _, rfl, .inl (SqL.of hr6), q, _, _, rfl, rfl, hq6, (by unfold lI; rw [List.length_map, sizeLine_eq]; omega), ?_⟩
      refine ⟨_, rfl, .inl ⟨rfl, _, SqL.of upd_same⟩, _, rfl, q, r, _, _, rfl, rfl, upd_same, by rw [upd_ne nrq]; exact hr6, ?_, ?_⟩
      · unfold lI
        rw [List.length_append, List.length_map, List.length_map, sizeLine_eq]
        show out.length + 1 + _ ≤ _
        omega
      have el2 : (lI out ++ [V.int ((lI (ans (Rc89.does s x).2)).length : Nat)]) ++ lI (ans (Rc89.does s x).2) = lI (out ++ ((ans (Rc89.does s x).2).length : Int) :: ans (Rc89.does s x).2) := by
        rw [lI_app, List.append_assoc, lI_len]
        rfl
      rw [upd_upd, el2]
      have hat : ((pre.length : Nat) : Int) + 1 + (xs.length : Nat) = (((pre ++ (p :: xs)).length : Nat) : Int) := by rw [List.length_append, List.length_cons]; omega
      exact ⟨rest'.length, by rw [List.length_cons, List.length_append]; omega, G', pre ++ (p :: xs), rest', cs, _, _, _, _, _, _, _, rfl, congrArg (fun z => [some (V.ref a), some (V.ref t), some (V.ref q), some (V.int z), some (V.int p), some (V.int (((pre.length : Nat) : Int) + 1 + (xs.length : Nat))), some (V.ref nl), some (V.ref sl), some (V.ref r)]) hat, AnsInv.next (mid := (p :: xs)) inv5 rd L tb6⟩
    | made ask rd =>
      rename_i i ss rest' x cs
      refine itd (fun c => ⟨_, fun σ' H' h => h, ?_⟩) (fun c => absurd (show ((pre.length : Nat) : Int) < (l.length : Int) by rw [hlen, List.length_cons]; omega) c)
      have hp2 : (pre ++ [2, i]).length = pre.length + 2 := by rw [List.length_append]; rfl
      have el : l = (pre ++ [2]) ++ ([i] ++ ((ss.length : Int) :: (ss ++ rest'))) := by rw [inv.eq, List.append_assoc]; rfl
      have el3 : l = (pre ++ [2, i, (ss.length : Int)]) ++ (ss ++ rest') := by rw [inv.eq, List.append_assoc]; rfl
      have hp1 : (pre ++ [2]).length = pre.length + 1 := by rw [List.length_append]; rfl
      have hp3 : (pre ++ [2, i, (ss.length : Int)]).length = pre.length + 3 := by rw [List.length_append]; rfl
      have hdeed : (lI l)[pre.length]? = some (.int 2) := lI_at (by rw [inv.eq, List.getElem?_append_right (Nat.le_refl _), Nat.sub_self]; rfl)
      have hmid : (lI l)[pre.length + 2]? = some (.int (ss.length : Int)) := lI_at (by rw [inv.eq, List.getElem?_append_right (by omega), Nat.add_sub_cancel_left]; rfl)
      refine ⟨_, rfl, _, rfl, a, _, _, _, rfl, rfl, ha2, atI_nat hdeed, ?_⟩
      refine ⟨_, rfl, _, _, rfl, rfl, _, rfl, aN, _, _, _, rfl, rfl, hN H2, atI_nat (j := 2) rfl, _, _, rfl, rfl, ?_⟩
      -- numbers
      refine ⟨_, rfl, _, rfl, _, _, rfl, rfl, (((pre ++ [2]).length : Nat) : Int), congrArg V.int (by rw [hp1]; rfl), _, rfl, (((pre ++ [2]).length + [i].length : Nat) : Int), congrArg V.int (by rw [hp1]; rfl), a, _, rfl, ha2, fun nl hnl => ?_⟩
      have hcut : cutV (lI l) (some (((pre ++ [2]).length : Nat) : Int)) (some (((pre ++ [2]).length + [i].length : Nat) : Int)) = lI [i] := by rw [el]; exact cut_mid rfl rfl
      rw [hcut]
      generalize hH3 : upd H2 nl (.lst (lI [i])) = H3
      have s23 : Same H2 H3 := by rw [← hH3]; exact same_upd hnl
      have hnl3 : H3 nl = some (.lst (lI [i])) := by rw [← hH3]; exact upd_same
      -- states = []; at = middle
      refine ⟨Nat.zero_le _, fun sl0 hsl0 => ?_⟩
      generalize hH4 : upd H3 sl0 (.lst []) = H4
      have s34 : Same H3 H4 := by rw [← hH4]; exact same_upd hsl0
      have s24 := s23.trans s34
      have ha4 := s24.seq ha2
      refine ⟨_, rfl, ?_⟩
      refine ⟨_, rfl, rfl, _, rfl, iteEqT ?_⟩
      -- at = middle + 1 + calls[middle]; states = calls[middle + 1:at]
      refine ⟨_, rfl, _, _, rfl, rfl, _, rfl, _, rfl, a, _, _, _, rfl, rfl, ha4, at_of (j := pre.length + 2) (by show ((pre.length : Nat) : Int) + 1 + 1 = _; omega) hmid, _, _, rfl, rfl, ?_⟩
      refine ⟨_, rfl, _, rfl, _, _, rfl, rfl, (((pre ++ [2, i, (ss.length : Int)]).length : Nat) : Int), congrArg V.int (by rw [hp3]; show ((pre.length : Nat) : Int) + 1 + 1 + 1 = _; omega), _, rfl, (((pre ++ [2, i, (ss.length : Int)]).length + ss.length : Nat) : Int), congrArg V.int (by rw [hp3]; show ((pre.length : Nat) : Int) + 1 + 1 + 1 + (ss.length : Int) = _; omega), a, _, rfl, ha4, fun sl hsl => ?_⟩
      have hcut3 : cutV (lI l) (some (((pre ++ [2, i, (ss.length : Int)]).length : Nat) : Int)) (some (((pre ++ [2, i, (ss.length : Int)]).length + ss.length : Nat) : Int)) = lI ss := by rw [el3]; exact cut_mid rfl rfl
      rw [hcut3]
      generalize hH5 : upd H4 sl (.lst (lI ss)) = H5
      have s45 : Same H4 H5 := by rw [← hH5]; exact same_upd hsl
      have hsl5 : H5 sl = some (.lst (lI ss)) := by rw [← hH5]; exact upd_same
      have hnl5 := s45 _ _ (s34 _ _ hnl3)
      have inv5 := inv.grow (s24.trans s45)
      obtain ⟨dT, pp, lm, ws, tab⟩ := inv5.tb
      have hlt : out.length + (1 + (ans (Rc89.does s x).2).length) ≤ 10000000 := by
        have := inv.an
        rw [show PyFlat.told (played s (x :: cs)) = PyFlat.told (ans (Rc89.does s x).2 :: played (Rc89.does s x).1 cs) from rfl, told_cons] at this
        rw [this, List.length_append, List.length_cons, List.length_append] at al
        omega
      refine ⟨_, rfl, t, dT, _, rfl, inv5.sG _ _ tab.tb, f2_no (by decide +kernel) (by decide +kernel), _, rfl, _, rfl, _, rfl, t, nl, sl, 2, [i], ss, x, s, G, rfl, SqL.of hnl5, SqL.of hsl5, ask, inv5.sG, inv5.tb, fun H6 r G' L tb6 hr6 hrn => ?_⟩
      have hq6 : H6 q = some (.lst (lI out)) := L.out _ _ inv5.li inv5.gq
      have nrq : r ≠ q := fun e => by rw [e, inv5.li] at hrn; cases hrn
      refine ⟨_, rfl, .inl ⟨rfl, _, SqL.of hq6⟩, _, rfl, r, _, rfl, .inl (SqL.of hr6), q, _, _, rfl, rfl, hq6, (by unfold lI; rw [List.length_map, sizeLine_eq]; omega), ?_⟩
      refine ⟨_, rfl, .inl ⟨rfl, _, SqL.of upd_same⟩, _, rfl, q, r, _, _, rfl, rfl, upd_same, by rw [upd_ne nrq]; exact hr6, ?_, ?_⟩
      · unfold lI
        rw [List.length_append, List.length_map, List.length_map, sizeLine_eq]
        show out.length + 1 + _ ≤ _
        omega
      have el2 : (lI out ++ [V.int ((lI (ans (Rc89.does s x).2)).length : Nat)]) ++ lI (ans (Rc89.does s x).2) = lI (out ++ ((ans (Rc89.does s x).2).length : Int) :: ans (Rc89.does s x).2) := by
        rw [lI_app, List.append_assoc, lI_len]
        rfl
      rw [upd_upd, el2]
      have hat : ((pre.length : Nat) : Int) + 1 + 1 + 1 + (ss.length : Int) = (((pre ++ (2 :: i :: (ss.length : Int) :: ss)).length : Nat) : Int) := by rw [List.length_append, List.length_cons, List.length_cons, List.length_cons]; omega
      exact ⟨rest'.length, by rw [List.length_cons, List.length_cons, List.length_cons, List.length_append]; omega, G', pre ++ (2 :: i :: (ss.length : Int) :: ss), rest', cs, _, _, _, _, _, _, _, rfl, congrArg (fun z => [some (V.ref a), some (V.ref t), some (V.ref q), some (V.int z), some (V.int 2), some (V.int (((pre.length : Nat) : Int) + 1 + 1)), some (V.ref nl), some (V.ref sl), some (V.ref r)]) hat, AnsInv.next (mid := (2 :: i :: (ss.length : Int) :: ss)) inv5 rd L tb6⟩
end
end Gt
/-! ## GtEnd -/
namespace Gt
open PySem PySem.Spec PyProof.Rows L2
/-! ### what the top has written -/
theorem all_mk {P : Program} {w : World} {K : PySem.W.Frag} {h : Heap} {mg : Str → Option Value} {fa CM CP CX CT aN fCommon fLess fPInit fOf fMInit fMany fReached fMayBe fSame fClasses fFewest fXInit fTurn fTimes fPaid fArcs fMost fLeast fBest fTInit fSetPay fMachine fRefusal fOfTwo fAnswer fAnswers : Addr} (X : K.In h) (G : h.Ns mainGlobals mg) (hfa : mg "answers" = some (.ref fa))
    {odCommon anCommon odLess anLess odPInit anPInit odOf anOf odMInit anMInit odMany anMany odReached anReached odMayBe anMayBe odSame anSame odClasses anClasses odFewest anFewest odXInit anXInit odTurn anTurn odTimes anTimes odPaid anPaid odArcs anArcs odMost anMost odLeast anLeast odBest anBest odTInit anTInit odSetPay anSetPay odMachine anMachine odRefusal anRefusal odOfTwo anOfTwo odAnswer anAnswer odAnswers anAnswers dN : Option Addr} {slCommon slLess slPInit slOf slMInit slMany slReached slMayBe slSame slClasses slFewest slXInit slTurn slTimes slPaid slArcs slMost slLeast slBest slTInit slSetPay slMachine slRefusal slOfTwo slAnswer slAnswers sN : Array (Option Value)} {ocCommon kVCommon dcCommon pmCommon cdCommon ctCommon ocLess kVLess dcLess pmLess cdLess ctLess ocPInit kVPInit dcPInit pmPInit cdPInit ctPInit ocOf kVOf dcOf pmOf cdOf ctOf ocMInit kVMInit dcMInit pmMInit cdMInit ctMInit ocMany kVMany dcMany pmMany cdMany ctMany ocReached kVReached dcReached pmReached cdReached ctReached ocMayBe kVMayBe dcMayBe pmMayBe cdMayBe ctMayBe ocSame kVSame dcSame pmSame cdSame ctSame ocClasses kVClasses dcClasses pmClasses cdClasses ctClasses ocFewest kVFewest dcFewest pmFewest cdFewest ctFewest ocXInit kVXInit dcXInit pmXInit cdXInit ctXInit ocTurn kVTurn dcTurn pmTurn cdTurn ctTurn ocTimes kVTimes dcTimes pmTimes cdTimes ctTimes ocPaid kVPaid dcPaid pmPaid cdPaid ctPaid ocArcs kVArcs dcArcs pmArcs cdArcs ctArcs ocMost kVMost dcMost pmMost cdMost ctMost ocLeast kVLeast dcLeast pmLeast cdLeast ctLeast ocBest kVBest dcBest pmBest cdBest ctBest ocTInit kVTInit dcTInit pmTInit cdTInit ctTInit ocSetPay kVSetPay dcSetPay pmSetPay cdSetPay ctSetPay ocMachine kVMachine dcMachine pmMachine cdMachine ctMachine ocRefusal kVRefusal dcRefusal pmRefusal cdRefusal ctRefusal ocOfTwo kVOfTwo dcOfTwo pmOfTwo cdOfTwo ctOfTwo ocAnswer kVAnswer dcAnswer pmAnswer cdAnswer ctAnswer ocAnswers kVAnswers dcAnswers pmAnswers cdAnswers ctAnswers : Value} {tMS tRf tNt tMc tMp tMr tMm tWd u0 u1 u2 u3 u4 u5 u6 u7 u8 : Tok} {nN : Nat}
    (aCM : PySem.W.nsIn K mainGlobals "Machine" = some (some (.ref CM)))
    (aCP : PySem.W.nsIn K mainGlobals "Pay" = some (some (.ref CP)))
    (aCX : PySem.W.nsIn K mainGlobals "Match" = some (some (.ref CX)))
    (aCT : PySem.W.nsIn K mainGlobals "Table" = some (some (.ref CT)))
    (aCommon : PySem.W.nsIn K mainGlobals "common" = some (some (.ref fCommon)))
    (lCommon : K.lookup fCommon = some ⟨ocCommon, odCommon, .func (PySem.W.fnOf "common" "common" (defArgs sCommon) (defBody sCommon) (defScope sCommon) .none kVCommon dcCommon pmCommon anCommon cdCommon ctCommon), slCommon⟩)
    (cCommon : PySem.W.codeIn K cdCommon "common" = true)
    (kCommon : PySem.W.keepIn K (.ref fCommon) = true)
    (aLess : PySem.W.nsIn K mainGlobals "is_less" = some (some (.ref fLess)))
    (lLess : K.lookup fLess = some ⟨ocLess, odLess, .func (PySem.W.fnOf "is_less" "is_less" (defArgs sLess) (defBody sLess) (defScope sLess) .none kVLess dcLess pmLess anLess cdLess ctLess), slLess⟩)
    (cLess : PySem.W.codeIn K cdLess "is_less" = true)
    (kLess : PySem.W.keepIn K (.ref fLess) = true)
    (aPInit : PySem.W.findIn K (.ref CP) "__init__" = some (some (.ref fPInit)))
    (iPInit : PySem.W.isFn K (.ref fPInit) = true)
    (lPInit : K.lookup fPInit = some ⟨ocPInit, odPInit, .func (PySem.W.fnOf "__init__" "Pay.__init__" (defArgs sPInit) (defBody sPInit) (defScope sPInit) .none kVPInit dcPInit pmPInit anPInit cdPInit ctPInit), slPInit⟩)
    (cPInit : PySem.W.codeIn K cdPInit "Pay.__init__" = true)
    (kPInit : PySem.W.keepIn K (.ref fPInit) = true)
    (aOf : PySem.W.findIn K (.ref CP) "of" = some (some (.ref fOf)))
    (iOf : PySem.W.isFn K (.ref fOf) = true)
    (lOf : K.lookup fOf = some ⟨ocOf, odOf, .func (PySem.W.fnOf "of" "Pay.of" (defArgs sOf) (defBody sOf) (defScope sOf) .none kVOf dcOf pmOf anOf cdOf ctOf), slOf⟩)
    (cOf : PySem.W.codeIn K cdOf "Pay.of" = true)
    (kOf : PySem.W.keepIn K (.ref fOf) = true)
    (aMInit : PySem.W.findIn K (.ref CM) "__init__" = some (some (.ref fMInit)))
    (iMInit : PySem.W.isFn K (.ref fMInit) = true)
    (lMInit : K.lookup fMInit = some ⟨ocMInit, odMInit, .func (PySem.W.fnOf "__init__" "Machine.__init__" (defArgs sMInit) (defBody sMInit) (defScope sMInit) .none kVMInit dcMInit pmMInit anMInit cdMInit ctMInit), slMInit⟩)
    (cMInit : PySem.W.codeIn K cdMInit "Machine.__init__" = true)
    (kMInit : PySem.W.keepIn K (.ref fMInit) = true)
    (aMany : PySem.W.findIn K (.ref CM) "many" = some (some (.ref fMany)))
    (iMany : PySem.W.isFn K (.ref fMany) = true)
    (lMany : K.lookup fMany = some ⟨ocMany, odMany, .func (PySem.W.fnOf "many" "Machine.many" (defArgs sMany) (defBody sMany) (defScope sMany) .none kVMany dcMany pmMany anMany cdMany ctMany), slMany⟩)
    (cMany : PySem.W.codeIn K cdMany "Machine.many" = true)
    (kMany : PySem.W.keepIn K (.ref fMany) = true)
    (aReached : PySem.W.findIn K (.ref CM) "reached" = some (some (.ref fReached)))
    (iReached : PySem.W.isFn K (.ref fReached) = true)
    (lReached : K.lookup fReached = some ⟨ocReached, odReached, .func (PySem.W.fnOf "reached" "Machine.reached" (defArgs sReached) (defBody sReached) (defScope sReached) .none kVReached dcReached pmReached anReached cdReached ctReached), slReached⟩)
    (cReached : PySem.W.codeIn K cdReached "Machine.reached" = true)
    (kReached : PySem.W.keepIn K (.ref fReached) = true)
    (aMayBe : PySem.W.nsIn K mainGlobals "may_be" = some (some (.ref fMayBe)))
    (lMayBe : K.lookup fMayBe = some ⟨ocMayBe, odMayBe, .func (PySem.W.fnOf "may_be" "may_be" (defArgs sMayBe) (defBody sMayBe) (defScope sMayBe) .none kVMayBe dcMayBe pmMayBe anMayBe cdMayBe ctMayBe), slMayBe⟩)
    (cMayBe : PySem.W.codeIn K cdMayBe "may_be" = true)
    (kMayBe : PySem.W.keepIn K (.ref fMayBe) = true)
    (aSame : PySem.W.nsIn K mainGlobals "are_same" = some (some (.ref fSame)))
    (lSame : K.lookup fSame = some ⟨ocSame, odSame, .func (PySem.W.fnOf "are_same" "are_same" (defArgs sSame) (defBody sSame) (defScope sSame) .none kVSame dcSame pmSame anSame cdSame ctSame), slSame⟩)
    (cSame : PySem.W.codeIn K cdSame "are_same" = true)
    (kSame : PySem.W.keepIn K (.ref fSame) = true)
    (aClasses : PySem.W.nsIn K mainGlobals "classes_behind" = some (some (.ref fClasses)))
    (lClasses : K.lookup fClasses = some ⟨ocClasses, odClasses, .func (PySem.W.fnOf "classes_behind" "classes_behind" (defArgs sClasses) (defBody sClasses) (defScope sClasses) .none kVClasses dcClasses pmClasses anClasses cdClasses ctClasses), slClasses⟩)
    (cClasses : PySem.W.codeIn K cdClasses "classes_behind" = true)
    (kClasses : PySem.W.keepIn K (.ref fClasses) = true)
    (aFewest : PySem.W.nsIn K mainGlobals "fewest_states" = some (some (.ref fFewest)))
    (lFewest : K.lookup fFewest = some ⟨ocFewest, odFewest, .func (PySem.W.fnOf "fewest_states" "fewest_states" (defArgs sFewest) (defBody sFewest) (defScope sFewest) .none kVFewest dcFewest pmFewest anFewest cdFewest ctFewest), slFewest⟩)
    (cFewest : PySem.W.codeIn K cdFewest "fewest_states" = true)
    (kFewest : PySem.W.keepIn K (.ref fFewest) = true)
    (aXInit : PySem.W.findIn K (.ref CX) "__init__" = some (some (.ref fXInit)))
    (iXInit : PySem.W.isFn K (.ref fXInit) = true)
    (lXInit : K.lookup fXInit = some ⟨ocXInit, odXInit, .func (PySem.W.fnOf "__init__" "Match.__init__" (defArgs sXInit) (defBody sXInit) (defScope sXInit) .none kVXInit dcXInit pmXInit anXInit cdXInit ctXInit), slXInit⟩)
    (cXInit : PySem.W.codeIn K cdXInit "Match.__init__" = true)
    (kXInit : PySem.W.keepIn K (.ref fXInit) = true)
    (aTurn : PySem.W.findIn K (.ref CX) "turn" = some (some (.ref fTurn)))
    (iTurn : PySem.W.isFn K (.ref fTurn) = true)
    (lTurn : K.lookup fTurn = some ⟨ocTurn, odTurn, .func (PySem.W.fnOf "turn" "Match.turn" (defArgs sTurn) (defBody sTurn) (defScope sTurn) .none kVTurn dcTurn pmTurn anTurn cdTurn ctTurn), slTurn⟩)
    (cTurn : PySem.W.codeIn K cdTurn "Match.turn" = true)
    (kTurn : PySem.W.keepIn K (.ref fTurn) = true)
    (aTimes : PySem.W.findIn K (.ref CX) "times" = some (some (.ref fTimes)))
    (iTimes : PySem.W.isFn K (.ref fTimes) = true)
    (lTimes : K.lookup fTimes = some ⟨ocTimes, odTimes, .func (PySem.W.fnOf "times" "Match.times" (defArgs sTimes) (defBody sTimes) (defScope sTimes) .none kVTimes dcTimes pmTimes anTimes cdTimes ctTimes), slTimes⟩)
    (cTimes : PySem.W.codeIn K cdTimes "Match.times" = true)
    (kTimes : PySem.W.keepIn K (.ref fTimes) = true)
    (aPaid : PySem.W.findIn K (.ref CX) "paid" = some (some (.ref fPaid)))
    (iPaid : PySem.W.isFn K (.ref fPaid) = true)
    (lPaid : K.lookup fPaid = some ⟨ocPaid, odPaid, .func (PySem.W.fnOf "paid" "Match.paid" (defArgs sPaid) (defBody sPaid) (defScope sPaid) .none kVPaid dcPaid pmPaid anPaid cdPaid ctPaid), slPaid⟩)
    (cPaid : PySem.W.codeIn K cdPaid "Match.paid" = true)
    (kPaid : PySem.W.keepIn K (.ref fPaid) = true)
    (aArcs : PySem.W.nsIn K mainGlobals "arcs_of" = some (some (.ref fArcs)))
    (lArcs : K.lookup fArcs = some ⟨ocArcs, odArcs, .func (PySem.W.fnOf "arcs_of" "arcs_of" (defArgs sArcs) (defBody sArcs) (defScope sArcs) .none kVArcs dcArcs pmArcs anArcs cdArcs ctArcs), slArcs⟩)
    (cArcs : PySem.W.codeIn K cdArcs "arcs_of" = true)
    (kArcs : PySem.W.keepIn K (.ref fArcs) = true)
    (aMost : PySem.W.nsIn K mainGlobals "most_behind" = some (some (.ref fMost)))
    (lMost : K.lookup fMost = some ⟨ocMost, odMost, .func (PySem.W.fnOf "most_behind" "most_behind" (defArgs sMost) (defBody sMost) (defScope sMost) .none kVMost dcMost pmMost anMost cdMost ctMost), slMost⟩)
    (cMost : PySem.W.codeIn K cdMost "most_behind" = true)
    (kMost : PySem.W.keepIn K (.ref fMost) = true)
    (aLeast : PySem.W.nsIn K mainGlobals "least_by" = some (some (.ref fLeast)))
    (lLeast : K.lookup fLeast = some ⟨ocLeast, odLeast, .func (PySem.W.fnOf "least_by" "least_by" (defArgs sLeast) (defBody sLeast) (defScope sLeast) .none kVLeast dcLeast pmLeast anLeast cdLeast ctLeast), slLeast⟩)
    (cLeast : PySem.W.codeIn K cdLeast "least_by" = true)
    (kLeast : PySem.W.keepIn K (.ref fLeast) = true)
    (aBest : PySem.W.nsIn K mainGlobals "best_of" = some (some (.ref fBest)))
    (lBest : K.lookup fBest = some ⟨ocBest, odBest, .func (PySem.W.fnOf "best_of" "best_of" (defArgs sBest) (defBody sBest) (defScope sBest) .none kVBest dcBest pmBest anBest cdBest ctBest), slBest⟩)
    (cBest : PySem.W.codeIn K cdBest "best_of" = true)
    (kBest : PySem.W.keepIn K (.ref fBest) = true)
    (aTInit : PySem.W.findIn K (.ref CT) "__init__" = some (some (.ref fTInit)))
    (iTInit : PySem.W.isFn K (.ref fTInit) = true)
    (lTInit : K.lookup fTInit = some ⟨ocTInit, odTInit, .func (PySem.W.fnOf "__init__" "Table.__init__" (defArgs sTInit) (defBody sTInit) (defScope sTInit) .none kVTInit dcTInit pmTInit anTInit cdTInit ctTInit), slTInit⟩)
    (cTInit : PySem.W.codeIn K cdTInit "Table.__init__" = true)
    (kTInit : PySem.W.keepIn K (.ref fTInit) = true)
    (aSetPay : PySem.W.findIn K (.ref CT) "set_pay" = some (some (.ref fSetPay)))
    (iSetPay : PySem.W.isFn K (.ref fSetPay) = true)
    (lSetPay : K.lookup fSetPay = some ⟨ocSetPay, odSetPay, .func (PySem.W.fnOf "set_pay" "Table.set_pay" (defArgs sSetPay) (defBody sSetPay) (defScope sSetPay) .none kVSetPay dcSetPay pmSetPay anSetPay cdSetPay ctSetPay), slSetPay⟩)
    (cSetPay : PySem.W.codeIn K cdSetPay "Table.set_pay" = true)
    (kSetPay : PySem.W.keepIn K (.ref fSetPay) = true)
    (aMachine : PySem.W.findIn K (.ref CT) "machine" = some (some (.ref fMachine)))
    (iMachine : PySem.W.isFn K (.ref fMachine) = true)
    (lMachine : K.lookup fMachine = some ⟨ocMachine, odMachine, .func (PySem.W.fnOf "machine" "Table.machine" (defArgs sMachine) (defBody sMachine) (defScope sMachine) .none kVMachine dcMachine pmMachine anMachine cdMachine ctMachine), slMachine⟩)
    (cMachine : PySem.W.codeIn K cdMachine "Table.machine" = true)
    (kMachine : PySem.W.keepIn K (.ref fMachine) = true)
    (aRefusal : PySem.W.findIn K (.ref CT) "refusal" = some (some (.ref fRefusal)))
    (iRefusal : PySem.W.isFn K (.ref fRefusal) = true)
    (lRefusal : K.lookup fRefusal = some ⟨ocRefusal, odRefusal, .func (PySem.W.fnOf "refusal" "Table.refusal" (defArgs sRefusal) (defBody sRefusal) (defScope sRefusal) .none kVRefusal dcRefusal pmRefusal anRefusal cdRefusal ctRefusal), slRefusal⟩)
    (cRefusal : PySem.W.codeIn K cdRefusal "Table.refusal" = true)
    (kRefusal : PySem.W.keepIn K (.ref fRefusal) = true)
    (aOfTwo : PySem.W.findIn K (.ref CT) "of_two" = some (some (.ref fOfTwo)))
    (iOfTwo : PySem.W.isFn K (.ref fOfTwo) = true)
    (lOfTwo : K.lookup fOfTwo = some ⟨ocOfTwo, odOfTwo, .func (PySem.W.fnOf "of_two" "Table.of_two" (defArgs sOfTwo) (defBody sOfTwo) (defScope sOfTwo) .none kVOfTwo dcOfTwo pmOfTwo anOfTwo cdOfTwo ctOfTwo), slOfTwo⟩)
    (cOfTwo : PySem.W.codeIn K cdOfTwo "Table.of_two" = true)
    (kOfTwo : PySem.W.keepIn K (.ref fOfTwo) = true)
    (aAnswer : PySem.W.findIn K (.ref CT) "answer" = some (some (.ref fAnswer)))
    (iAnswer : PySem.W.isFn K (.ref fAnswer) = true)
    (lAnswer : K.lookup fAnswer = some ⟨ocAnswer, odAnswer, .func (PySem.W.fnOf "answer" "Table.answer" (defArgs sAnswer) (defBody sAnswer) (defScope sAnswer) .none kVAnswer dcAnswer pmAnswer anAnswer cdAnswer ctAnswer), slAnswer⟩)
    (cAnswer : PySem.W.codeIn K cdAnswer "Table.answer" = true)
    (kAnswer : PySem.W.keepIn K (.ref fAnswer) = true)
    (aAnswers : PySem.W.nsIn K mainGlobals "answers" = some (some (.ref fAnswers)))
    (lAnswers : K.lookup fAnswers = some ⟨ocAnswers, odAnswers, .func (PySem.W.fnOf "answers" "answers" (defArgs sAnswers) (defBody sAnswers) (defScope sAnswers) .none kVAnswers dcAnswers pmAnswers anAnswers cdAnswers ctAnswers), slAnswers⟩)
    (cAnswers : PySem.W.codeIn K cdAnswers "answers" = true)
    (kAnswers : PySem.W.keepIn K (.ref fAnswers) = true)
    (pgCM : PySem.W.plainGet K CM Str.empty = true)
    (hdCM : PySem.W.hasDictIn K CM = true)
    (poCM : PySem.W.plainOver K CM = true)
    (saCM : PySem.W.findIn K (.ref CM) "__setattr__" = some (some (.builtin "object.__setattr__")))
    (mkCM : PySem.W.makesIn K CM = true)
    (kcCM : PySem.W.keepIn K (.ref CM) = true)
    (nCMdeeds : PySem.W.findIn K (.ref CM) "deeds" = some none)
    (nCMnexts : PySem.W.findIn K (.ref CM) "nexts" = some none)
    (pgCP : PySem.W.plainGet K CP Str.empty = true)
    (hdCP : PySem.W.hasDictIn K CP = true)
    (poCP : PySem.W.plainOver K CP = true)
    (saCP : PySem.W.findIn K (.ref CP) "__setattr__" = some (some (.builtin "object.__setattr__")))
    (mkCP : PySem.W.makesIn K CP = true)
    (kcCP : PySem.W.keepIn K (.ref CP) = true)
    (nCPamounts : PySem.W.findIn K (.ref CP) "amounts" = some none)
    (pgCX : PySem.W.plainGet K CX Str.empty = true)
    (hdCX : PySem.W.hasDictIn K CX = true)
    (poCX : PySem.W.plainOver K CX = true)
    (saCX : PySem.W.findIn K (.ref CX) "__setattr__" = some (some (.builtin "object.__setattr__")))
    (mkCX : PySem.W.makesIn K CX = true)
    (kcCX : PySem.W.keepIn K (.ref CX) = true)
    (nCXmoves : PySem.W.findIn K (.ref CX) "moves" = some none)
    (nCXsince : PySem.W.findIn K (.ref CX) "since" = some none)
    (pgCT : PySem.W.plainGet K CT Str.empty = true)
    (hdCT : PySem.W.hasDictIn K CT = true)
    (poCT : PySem.W.plainOver K CT = true)
    (saCT : PySem.W.findIn K (.ref CT) "__setattr__" = some (some (.builtin "object.__setattr__")))
    (mkCT : PySem.W.makesIn K CT = true)
    (kcCT : PySem.W.keepIn K (.ref CT) = true)
    (nCTpay : PySem.W.findIn K (.ref CT) "pay" = some none)
    (nCTmachines : PySem.W.findIn K (.ref CT) "machines" = some none)
    (zlen : PySem.W.nsIn K mainGlobals "len" = some none)
    (zrange : PySem.W.nsIn K mainGlobals "range" = some none)
    (zabs : PySem.W.nsIn K mainGlobals "abs" = some none)
    (zint : PySem.W.nsIn K mainGlobals "int" = some none)
    (zset : PySem.W.nsIn K mainGlobals "set" = some none)
    (zenumerate : PySem.W.nsIn K mainGlobals "enumerate" = some none)
    (gMS : PySem.W.nsIn K mainGlobals "MOST_STATES" = some (some (.int 16 tMS)))
    (gRf : PySem.W.nsIn K mainGlobals "REFUSED" = some (some (.int (-1) tRf)))
    (gNt : PySem.W.nsIn K mainGlobals "NOT_THERE" = some (some (.int (-4) tNt)))
    (gMc : PySem.W.nsIn K mainGlobals "MACHINES" = some (some (.int 8 tMc)))
    (gMp : PySem.W.nsIn K mainGlobals "MOST_PAY" = some (some (.int 1000 tMp)))
    (gMr : PySem.W.nsIn K mainGlobals "MOST_ROUNDS" = some (some (.int 1000000000000000 tMr)))
    (gMm : PySem.W.nsIn K mainGlobals "MOST_MOVES" = some (some (.int 256 tMm)))
    (gWd : PySem.W.nsIn K mainGlobals "WORD" = some (some (.int 18446744073709551616 tWd)))
    (gNum : PySem.W.nsIn K mainGlobals "NUMBERS" = some (some (.ref aN)))
    (lNum : K.lookup aN = some ⟨.type "tuple", dN, .seq #[.int 0 u0, .int 4 u1, .int 1 u2, .int 3 u3, .int 2 u4, .int 3 u5, .int 2 u6, .int 1 u7, .int 1 u8] nN, sN⟩) :
    ∃ fd : FuncData, (∀ (s : Shared) (us : List Value), us.length = (["calls"] : List Str).length → BindsTo s fd ⟨us, []⟩ ((["calls"] : List Str).zip us)) ∧ ∀ base : Heap, K.In base → base.Ns mainGlobals mg → FnOk P w K mg base CX0 6 fa fd ["calls"] (spAnswers K) := by
  have e := hfa.symm.trans (PySem.W.mg_of X G aAnswers)
  cases e
  have hN : ∀ H : Hp, SqT K H aN (lI [0, 4, 1, 3, 2, 3, 2, 1, 1]) := fun H => .inr ⟨_, _, _, lNum, rfl, rfl, (by show 9 ≤ sizeLine; decide), .cons ⟨_, rfl⟩ (.cons ⟨_, rfl⟩ (.cons ⟨_, rfl⟩ (.cons ⟨_, rfl⟩ (.cons ⟨_, rfl⟩ (.cons ⟨_, rfl⟩ (.cons ⟨_, rfl⟩ (.cons ⟨_, rfl⟩ (.cons ⟨_, rfl⟩ .nil))))))))⟩
  have T : Txt K mg CM CP CX CT := {
    clM := ⟨pgCM, hdCM, poCM, saCM⟩
    clP := ⟨pgCP, hdCP, poCP, saCP⟩
    clX := ⟨pgCX, hdCX, poCX, saCX⟩
    clT := ⟨pgCT, hdCT, poCT, saCT⟩
    nD := nCMdeeds
    nN := nCMnexts
    nA := nCPamounts
    nMv := nCXmoves
    nS := nCXsince
    nP := nCTpay
    nMs := nCTmachines
    len := PySem.W.mg_none_of X G zlen
    range := PySem.W.mg_none_of X G zrange
    abs := PySem.W.mg_none_of X G zabs
    int := PySem.W.mg_none_of X G zint
    set := PySem.W.mg_none_of X G zset
    enum := PySem.W.mg_none_of X G zenumerate
    cMS := ⟨_, PySem.W.mg_of X G gMS⟩
    cRef := ⟨_, PySem.W.mg_of X G gRf⟩
    cNot := ⟨_, PySem.W.mg_of X G gNt⟩
    cMach := ⟨_, PySem.W.mg_of X G gMc⟩
    cPay := ⟨_, PySem.W.mg_of X G gMp⟩
    cRounds := ⟨_, PySem.W.mg_of X G gMr⟩
    cMoves := ⟨_, PySem.W.mg_of X G gMm⟩
    cWord := ⟨_, PySem.W.mg_of X G gWd⟩
    cNum := ⟨aN, PySem.W.mg_of X G gNum, hN⟩
  }
  have F_Common := fun_mk (st := sCommon) lCommon cCommon kCommon
  have b_Common := F_Common.binds (ps := ["one", "other"]) fun _ _ _ _ _ _ us hl => match us, hl with | [_, _], _ => rfl
  have F_Less := fun_mk (st := sLess) lLess cLess kLess
  have b_Less := F_Less.binds (ps := ["one", "other"]) fun _ _ _ _ _ _ us hl => match us, hl with | [_, _], _ => rfl
  have F_PInit := fun_mk (st := sPInit) lPInit cPInit kPInit
  have b_PInit := F_PInit.binds (ps := ["self", "both", "given", "taken", "none"]) fun _ _ _ _ _ _ us hl => match us, hl with | [_, _, _, _, _], _ => rfl
  have F_Of := fun_mk (st := sOf) lOf cOf kOf
  have b_Of := F_Of.binds (ps := ["self", "own", "other"]) fun _ _ _ _ _ _ us hl => match us, hl with | [_, _, _], _ => rfl
  have F_MInit := fun_mk (st := sMInit) lMInit cMInit kMInit
  have b_MInit := F_MInit.binds (ps := ["self", "states"]) fun _ _ _ _ _ _ us hl => match us, hl with | [_, _], _ => rfl
  have F_Many := fun_mk (st := sMany) lMany cMany kMany
  have b_Many := F_Many.binds (ps := ["self"]) fun _ _ _ _ _ _ us hl => match us, hl with | [_], _ => rfl
  have F_Reached := fun_mk (st := sReached) lReached cReached kReached
  have b_Reached := F_Reached.binds (ps := ["self"]) fun _ _ _ _ _ _ us hl => match us, hl with | [_], _ => rfl
  have F_MayBe := fun_mk (st := sMayBe) lMayBe cMayBe kMayBe
  have b_MayBe := F_MayBe.binds (ps := ["states"]) fun _ _ _ _ _ _ us hl => match us, hl with | [_], _ => rfl
  have F_Same := fun_mk (st := sSame) lSame cSame kSame
  have b_Same := F_Same.binds (ps := ["one", "other"]) fun _ _ _ _ _ _ us hl => match us, hl with | [_, _], _ => rfl
  have F_Classes := fun_mk (st := sClasses) lClasses cClasses kClasses
  have b_Classes := F_Classes.binds (ps := ["machine", "states", "classes"]) fun _ _ _ _ _ _ us hl => match us, hl with | [_, _, _], _ => rfl
  have F_Fewest := fun_mk (st := sFewest) lFewest cFewest kFewest
  have b_Fewest := F_Fewest.binds (ps := ["machine"]) fun _ _ _ _ _ _ us hl => match us, hl with | [_], _ => rfl
  have F_XInit := fun_mk (st := sXInit) lXInit cXInit kXInit
  have b_XInit := F_XInit.binds (ps := ["self", "one", "other"]) fun _ _ _ _ _ _ us hl => match us, hl with | [_, _, _], _ => rfl
  have F_Turn := fun_mk (st := sTurn) lTurn cTurn kTurn
  have b_Turn := F_Turn.binds (ps := ["self"]) fun _ _ _ _ _ _ us hl => match us, hl with | [_], _ => rfl
  have F_Times := fun_mk (st := sTimes) lTimes cTimes kTimes
  have b_Times := F_Times.binds (ps := ["self", "place", "rounds"]) fun _ _ _ _ _ _ us hl => match us, hl with | [_, _, _], _ => rfl
  have F_Paid := fun_mk (st := sPaid) lPaid cPaid kPaid
  have b_Paid := F_Paid.binds (ps := ["self", "pay", "rounds"]) fun _ _ _ _ _ _ us hl => match us, hl with | [_, _, _], _ => rfl
  have F_Arcs := fun_mk (st := sArcs) lArcs cArcs kArcs
  have b_Arcs := F_Arcs.binds (ps := ["machine", "pay"]) fun _ _ _ _ _ _ us hl => match us, hl with | [_, _], _ => rfl
  have F_Most := fun_mk (st := sMost) lMost cMost kMost
  have b_Most := F_Most.binds (ps := ["arcs", "before"]) fun _ _ _ _ _ _ us hl => match us, hl with | [_, _], _ => rfl
  have F_Least := fun_mk (st := sLeast) lLeast cLeast kLeast
  have b_Least := F_Least.binds (ps := ["totals", "state"]) fun _ _ _ _ _ _ us hl => match us, hl with | [_, _], _ => rfl
  have F_Best := fun_mk (st := sBest) lBest cBest kBest
  have b_Best := F_Best.binds (ps := ["machine", "pay"]) fun _ _ _ _ _ _ us hl => match us, hl with | [_, _], _ => rfl
  have F_TInit := fun_mk (st := sTInit) lTInit cTInit kTInit
  have b_TInit := F_TInit.binds (ps := ["self"]) fun _ _ _ _ _ _ us hl => match us, hl with | [_], _ => rfl
  have F_SetPay := fun_mk (st := sSetPay) lSetPay cSetPay kSetPay
  have b_SetPay := F_SetPay.binds (ps := ["self", "numbers"]) fun _ _ _ _ _ _ us hl => match us, hl with | [_, _], _ => rfl
  have F_Machine := fun_mk (st := sMachine) lMachine cMachine kMachine
  have b_Machine := F_Machine.binds (ps := ["self", "which", "states"]) fun _ _ _ _ _ _ us hl => match us, hl with | [_, _, _], _ => rfl
  have F_Refusal := fun_mk (st := sRefusal) lRefusal cRefusal kRefusal
  have b_Refusal := F_Refusal.binds (ps := ["self", "some"]) fun _ _ _ _ _ _ us hl => match us, hl with | [_, _], _ => rfl
  have F_OfTwo := fun_mk (st := sOfTwo) lOfTwo cOfTwo kOfTwo
  have b_OfTwo := F_OfTwo.binds (ps := ["self", "deed", "one", "other", "number"]) fun _ _ _ _ _ _ us hl => match us, hl with | [_, _, _, _, _], _ => rfl
  have F_Answer := fun_mk (st := sAnswer) lAnswer cAnswer kAnswer
  have b_Answer := F_Answer.binds (ps := ["self", "deed", "numbers", "states"]) fun _ _ _ _ _ _ us hl => match us, hl with | [_, _, _, _], _ => rfl
  have F_Answers := fun_mk (st := sAnswers) lAnswers cAnswers kAnswers
  refine ⟨PySem.W.fnOf "answers" "answers" (defArgs sAnswers) (defBody sAnswers) (defScope sAnswers) .none kVAnswers dcAnswers pmAnswers anAnswers cdAnswers ctAnswers, fun s us hu => match us, hu with | [_], _ => .of_eq rfl, fun base _ _ => ?_⟩
  have G_Common : Df P w K mg base "common" 1 ["one", "other"] spCommon fCommon _ := ⟨ok_common F_Common, b_Common, PySem.W.mg_of X G aCommon, kCommon⟩
  have G_Less : Df P w K mg base "is_less" 1 ["one", "other"] (spLess K) fLess _ := ⟨ok_less F_Less, b_Less, PySem.W.mg_of X G aLess, kLess⟩
  have G_PInit : Nw P w K mg base CP "Pay" 1 ["self", "both", "given", "taken", "none"] (spPInit CP) fPInit _ := ⟨ok_pinit F_PInit T, b_PInit, ⟨mkCP, aPInit, iPInit, kcCP⟩, PySem.W.mg_of X G aCP⟩
  have G_Of : Md P w K mg base CP "of" 1 ["self", "own", "other"] (spOf CP) fOf _ := ⟨ok_of F_Of T, b_Of, ⟨aOf, iOf, kOf⟩⟩
  have G_MInit : Nw P w K mg base CM "Machine" 1 ["self", "states"] (spMInit K CM) fMInit _ := ⟨ok_minit F_MInit T, b_MInit, ⟨mkCM, aMInit, iMInit, kcCM⟩, PySem.W.mg_of X G aCM⟩
  have G_Many : Md P w K mg base CM "many" 1 ["self"] (spMany CM) fMany _ := ⟨ok_many F_Many T, b_Many, ⟨aMany, iMany, kMany⟩⟩
  have G_Reached : Md P w K mg base CM "reached" 1 ["self"] (spReached CM) fReached _ := ⟨ok_reached F_Reached T, b_Reached, ⟨aReached, iReached, kReached⟩⟩
  have G_MayBe : Df P w K mg base "may_be" 1 ["states"] (spMayBe K) fMayBe _ := ⟨ok_maybe F_MayBe T, b_MayBe, PySem.W.mg_of X G aMayBe, kMayBe⟩
  have G_Same : Df P w K mg base "are_same" 1 ["one", "other"] (spSame CM) fSame _ := ⟨ok_same F_Same T, b_Same, PySem.W.mg_of X G aSame, kSame⟩
  have G_Classes : Df P w K mg base "classes_behind" 1 ["machine", "states", "classes"] (spClasses CM) fClasses _ := ⟨ok_classes F_Classes T, b_Classes, PySem.W.mg_of X G aClasses, kClasses⟩
  have G_Fewest : Df P w K mg base "fewest_states" 2 ["machine"] (spFewest CM) fFewest _ := ⟨ok_fewest F_Fewest T G_Reached G_Classes, b_Fewest, PySem.W.mg_of X G aFewest, kFewest⟩
  have G_XInit : Nw P w K mg base CX "Match" 1 ["self", "one", "other"] (spXInit CM CX) fXInit _ := ⟨ok_xinit F_XInit T, b_XInit, ⟨mkCX, aXInit, iXInit, kcCX⟩, PySem.W.mg_of X G aCX⟩
  have G_Turn : Md P w K mg base CX "turn" 1 ["self"] (spTurn CX) fTurn _ := ⟨ok_turn F_Turn T, b_Turn, ⟨aTurn, iTurn, kTurn⟩⟩
  have G_Times : Md P w K mg base CX "times" 2 ["self", "place", "rounds"] (spTimes CX) fTimes _ := ⟨ok_times F_Times T G_Turn, b_Times, ⟨aTimes, iTimes, kTimes⟩⟩
  have G_Paid : Md P w K mg base CX "paid" 3 ["self", "pay", "rounds"] (spPaid CP CX) fPaid _ := ⟨ok_paid F_Paid T G_Times G_Of, b_Paid, ⟨aPaid, iPaid, kPaid⟩⟩
  have G_Arcs : Df P w K mg base "arcs_of" 2 ["machine", "pay"] (spArcs CM CP) fArcs _ := ⟨ok_arcs F_Arcs T G_Reached G_Of, b_Arcs, PySem.W.mg_of X G aArcs, kArcs⟩
  have G_Most : Df P w K mg base "most_behind" 1 ["arcs", "before"] spMost fMost _ := ⟨ok_most F_Most, b_Most, PySem.W.mg_of X G aMost, kMost⟩
  have G_Least : Df P w K mg base "least_by" 2 ["totals", "state"] spLeast fLeast _ := ⟨ok_least F_Least T G_Less, b_Least, PySem.W.mg_of X G aLeast, kLeast⟩
  have G_Best : Df P w K mg base "best_of" 3 ["machine", "pay"] (spBest CM CP) fBest _ := ⟨ok_best F_Best T G_Arcs G_Reached G_Most G_Least G_Less G_Common, b_Best, PySem.W.mg_of X G aBest, kBest⟩
  have G_TInit : Nw P w K mg base CT "Table" 3 ["self"] (spTInit CM CP CT) fTInit _ := ⟨ok_tinit F_TInit T G_PInit, b_TInit, ⟨mkCT, aTInit, iTInit, kcCT⟩, PySem.W.mg_of X G aCT⟩
  have G_SetPay : Md P w K mg base CT "set_pay" 3 ["self", "numbers"] (spSetPay K CM CP CT) fSetPay _ := ⟨ok_setpay F_SetPay T G_PInit, b_SetPay, ⟨aSetPay, iSetPay, kSetPay⟩⟩
  have G_Machine : Md P w K mg base CT "machine" 3 ["self", "which", "states"] (spMachine K CM CP CT) fMachine _ := ⟨ok_machine F_Machine T G_MayBe G_MInit G_Many, b_Machine, ⟨aMachine, iMachine, kMachine⟩⟩
  have G_Refusal : Md P w K mg base CT "refusal" 1 ["self", "some"] (spRefusal K CM CP CT) fRefusal _ := ⟨ok_refusal F_Refusal T, b_Refusal, ⟨aRefusal, iRefusal, kRefusal⟩⟩
  have G_OfTwo : Md P w K mg base CT "of_two" 4 ["self", "deed", "one", "other", "number"] (spOfTwo CM CP CT) fOfTwo _ := ⟨ok_oftwo F_OfTwo T G_Same G_XInit G_Paid G_Turn, b_OfTwo, ⟨aOfTwo, iOfTwo, kOfTwo⟩⟩
  have G_Answer : Md P w K mg base CT "answer" 5 ["self", "deed", "numbers", "states"] (spAnswer K CM CP CT) fAnswer _ := ⟨ok_answer F_Answer T G_PInit G_SetPay G_Machine G_Refusal G_Fewest G_Best G_OfTwo, b_Answer, ⟨aAnswer, iAnswer, kAnswer⟩⟩
  exact ok_answers F_Answers T G_TInit G_Answer
end Gt
open PySem PySem.W PyProof.Rows
set_option maxRecDepth 100000 in
set_option maxHeartbeats 0 in
theorem PySem.Challenge.cw_giveortake_s01_answers_holds : PySem.Challenge.rw_giveortake_s01_answers.Holds := by
  w_on; k_headS; (case hw => exact ⟨[.list []], by decide +kernel, by decide +kernel⟩)
  k_fillS
  refine L2.walk_specK (r := PySem.Challenge.rw_giveortake_s01_answers) (k := 6) (CX := L2.CX0) (ps := ["calls"]) (sp := Gt.spAnswers) (by decide +kernel) rfl rfl ⟨rfl, by decide, by decide⟩ (fun w h Y => PySem.W.kIn_of Y) ?F ?S (fun _ _ _ _ z => z)
  case F =>
    intro w mg fa h Y KX G hmg
    refine' Gt.all_mk KX G hmg ?aCM ?aCP ?aCX ?aCT ?aCommon ?lCommon ?cCommon ?kCommon ?aLess ?lLess ?cLess ?kLess ?aPInit ?iPInit ?lPInit ?cPInit ?kPInit ?aOf ?iOf ?lOf ?cOf ?kOf ?aMInit ?iMInit ?lMInit ?cMInit ?kMInit ?aMany ?iMany ?lMany ?cMany ?kMany ?aReached ?iReached ?lReached ?cReached ?kReached ?aMayBe ?lMayBe ?cMayBe ?kMayBe ?aSame ?lSame ?cSame ?kSame ?aClasses ?lClasses ?cClasses ?kClasses ?aFewest ?lFewest ?cFewest ?kFewest ?aXInit ?iXInit ?lXInit ?cXInit ?kXInit ?aTurn ?iTurn ?lTurn ?cTurn ?kTurn ?aTimes ?iTimes ?lTimes ?cTimes ?kTimes ?aPaid ?iPaid ?lPaid ?cPaid ?kPaid ?aArcs ?lArcs ?cArcs ?kArcs ?aMost ?lMost ?cMost ?kMost ?aLeast ?lLeast ?cLeast ?kLeast ?aBest ?lBest ?cBest ?kBest ?aTInit ?iTInit ?lTInit ?cTInit ?kTInit ?aSetPay ?iSetPay ?lSetPay ?cSetPay ?kSetPay ?aMachine ?iMachine ?lMachine ?cMachine ?kMachine ?aRefusal ?iRefusal ?lRefusal ?cRefusal ?kRefusal ?aOfTwo ?iOfTwo ?lOfTwo ?cOfTwo ?kOfTwo ?aAnswer ?iAnswer ?lAnswer ?cAnswer ?kAnswer ?aAnswers ?lAnswers ?cAnswers ?kAnswers ?pgCM ?hdCM ?poCM ?saCM ?mkCM ?kcCM ?nCMdeeds ?nCMnexts ?pgCP ?hdCP ?poCP ?saCP ?mkCP ?kcCP ?nCPamounts ?pgCX ?hdCX ?poCX ?saCX ?mkCX ?kcCX ?nCXmoves ?nCXsince ?pgCT ?hdCT ?poCT ?saCT ?mkCT ?kcCT ?nCTpay ?nCTmachines ?zlen ?zrange ?zabs ?zint ?zset ?zenumerate ?gMS ?gRf ?gNt ?gMc ?gMp ?gMr ?gMm ?gWd ?gNum ?lNum
    (case aCM => k_is)
    (case aCP => k_is)
    (case aCX => k_is)
    (case aCT => k_is)
    (case aCommon => k_is)
    (case lCommon => k_is)
    (case cCommon => k_is)
    (case kCommon => k_is)
    (case aLess => k_is)
    (case lLess => k_is)
    (case cLess => k_is)
    (case kLess => k_is)
    (case aPInit => k_is)
    (case iPInit => k_is)
    (case lPInit => k_is)
    (case cPInit => k_is)
    (case kPInit => k_is)
    (case aOf => k_is)
    (case iOf => k_is)
    (case lOf => k_is)
    (case cOf => k_is)
    (case kOf => k_is)
    (case aMInit => k_is)
    (case iMInit => k_is)
    (case lMInit => k_is)
    (case cMInit => k_is)
    (case kMInit => k_is)
    (case aMany => k_is)
    (case iMany => k_is)
    (case lMany => k_is)
    (case cMany => k_is)
    (case kMany => k_is)
    (case aReached => k_is)
    (case iReached => k_is)
    (case lReached => k_is)
    (case cReached => k_is)
    (case kReached => k_is)
    (case aMayBe => k_is)
    (case lMayBe => k_is)
    (case cMayBe => k_is)
    (case kMayBe => k_is)
    (case aSame => k_is)
    (case lSame => k_is)
    (case cSame => k_is)
    (case kSame => k_is)
    (case aClasses => k_is)
    (case lClasses => k_is)
    (case cClasses => k_is)
    (case kClasses => k_is)
    (case aFewest => k_is)
    (case lFewest => k_is)
    (case cFewest => k_is)
    (case kFewest => k_is)
    (case aXInit => k_is)
    (case iXInit => k_is)
    (case lXInit => k_is)
    (case cXInit => k_is)
    (case kXInit => k_is)
    (case aTurn => k_is)
    (case iTurn => k_is)
    (case lTurn => k_is)
    (case cTurn => k_is)
    (case kTurn => k_is)
    (case aTimes => k_is)
    (case iTimes => k_is)
    (case lTimes => k_is)
    (case cTimes => k_is)
    (case kTimes => k_is)
    (case aPaid => k_is)
    (case iPaid => k_is)
    (case lPaid => k_is)
    (case cPaid => k_is)
    (case kPaid => k_is)
    (case aArcs => k_is)
    (case lArcs => k_is)
    (case cArcs => k_is)
    (case kArcs => k_is)
    (case aMost => k_is)
    (case lMost => k_is)
    (case cMost => k_is)
    (case kMost => k_is)
    (case aLeast => k_is)
    (case lLeast => k_is)
    (case cLeast => k_is)
    (case kLeast => k_is)
    (case aBest => k_is)
    (case lBest => k_is)
    (case cBest => k_is)
    (case kBest => k_is)
    (case aTInit => k_is)
    (case iTInit => k_is)
    (case lTInit => k_is)
    (case cTInit => k_is)
    (case kTInit => k_is)
    (case aSetPay => k_is)
    (case iSetPay => k_is)
    (case lSetPay => k_is)
    (case cSetPay => k_is)
    (case kSetPay => k_is)
    (case aMachine => k_is)
    (case iMachine => k_is)
    (case lMachine => k_is)
    (case cMachine => k_is)
    (case kMachine => k_is)
    (case aRefusal => k_is)
    (case iRefusal => k_is)
    (case lRefusal => k_is)
    (case cRefusal => k_is)
    (case kRefusal => k_is)
    (case aOfTwo => k_is)
    (case iOfTwo => k_is)
    (case lOfTwo => k_is)
    (case cOfTwo => k_is)
    (case kOfTwo => k_is)
    (case aAnswer => k_is)
    (case iAnswer => k_is)
    (case lAnswer => k_is)
    (case cAnswer => k_is)
    (case kAnswer => k_is)
    (case aAnswers => k_is)
    (case lAnswers => k_is)
    (case cAnswers => k_is)
    (case kAnswers => k_is)
    (case pgCM => k_is)
    (case hdCM => k_is)
    (case poCM => k_is)
    (case saCM => k_is)
    (case mkCM => k_is)
    (case kcCM => k_is)
    (case nCMdeeds => k_is)
    (case nCMnexts => k_is)
    (case pgCP => k_is)
    (case hdCP => k_is)
    (case poCP => k_is)
    (case saCP => k_is)
    (case mkCP => k_is)
    (case kcCP => k_is)
    (case nCPamounts => k_is)
    (case pgCX => k_is)
    (case hdCX => k_is)
    (case poCX => k_is)
    (case saCX => k_is)
    (case mkCX => k_is)
    (case kcCX => k_is)
    (case nCXmoves => k_is)
    (case nCXsince => k_is)
    (case pgCT => k_is)
    (case hdCT => k_is)
    (case poCT => k_is)
    (case saCT => k_is)
    (case mkCT => k_is)
    (case kcCT => k_is)
    (case nCTpay => k_is)
    (case nCTmachines => k_is)
    (case zlen => k_is)
    (case zrange => k_is)
    (case zabs => k_is)
    (case zint => k_is)
    (case zset => k_is)
    (case zenumerate => k_is)
    (case gMS => k_is)
    (case gRf => k_is)
    (case gNt => k_is)
    (case gMc => k_is)
    (case gMp => k_is)
    (case gMr => k_is)
    (case gMm => k_is)
    (case gWd => k_is)
    (case gNum => k_is)
    (case lNum => k_is)
  case S =>
    intro K H xs a hO hwi hask hx
    cases hx with
    | cons h1 h2 =>
      cases h2
      cases h1 with
      | lst hs ha =>
        have e := L2.ints_dw a.1 _ ha
        subst e
        exact ⟨_, a.1, rfl, hs, hask, fun H' p hp => .lst (L2.SqL.of hp) (L2.dw_ints _)⟩
#print axioms PySem.Challenge.cw_giveortake_s01_answers_holds
