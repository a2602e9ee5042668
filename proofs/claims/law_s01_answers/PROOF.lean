import PyProof.Rows.All
import Wide.All
import OpenK.AllK
import Wide.FinOn
import PyProof.EqAt
import PyProof.EqKinds
import PyProof.TupleCall
import Open.SpecLaws
import KE.OsGo
import PySem.Challenge.RW_dogshows_s01_answers
import HandS.ForSpec
import HandS.Comp
import HandS.Dict
import HandS.TupLen
import HandS.NoneIn
import HandS.ExcInit
import HandS.ExcField
import HandS.Zip
import HandS.Evl
import PyFlatLaws
set_option Elab.async false
set_option linter.all false
set_option maxRecDepth 100000
set_option maxHeartbeats 4000000
/-! Plain mathematics of the specification Kg73: what holds of every state that is come to, and how its words read in the program's own order. -/
namespace Ds
open Kg73 (State Show Entry Row Award)

/-! ### small things of lists -/
theorem find_app {α : Type} (p : α → Bool) (l m : List α) : (l ++ m).find? p = (l.find? p).or (m.find? p) := by
  rw [List.find?_append]
theorem take_snoc {α : Type} : ∀ {l : List α} {i : Nat} {x : α}, l[i]? = some x → l.take (i + 1) = l.take i ++ [x]
  | [], i, x, h => by simp at h
  | a :: l, 0, x, h => by simp at h; subst h; simp
  | a :: l, i + 1, x, h => by
    have h' : l[i]? = some x := by simpa using h
    rw [List.take_succ_cons, List.take_succ_cons, take_snoc h', List.cons_append]
theorem find_take {α : Type} (p : α → Bool) {l : List α} {i : Nat} {x : α} (h : l[i]? = some x) (hn : (l.take i).find? p = none) (hx : p x = true) : l.find? p = some x := by
  have e : l = l.take (i + 1) ++ l.drop (i + 1) := (List.take_append_drop _ _).symm
  rw [e, take_snoc h, List.find?_append, List.find?_append, hn]
  simp [hx]

/-! ### what holds of a state that is come to in n calls -/
structure GoodW (s : State) (w : Show) : Prop where
  eDog : ∀ e ∈ w.entries, e.dog < s.dogs.length
  eNd : (w.entries.map Entry.dog).Nodup
  eGr : ∀ e ∈ w.entries, e.grade ≤ 3
  rDog : ∀ r ∈ w.rows, ∀ i ∈ r.dogs, i < s.dogs.length ∧ ∃ e, w.entry i = some e ∧ e.class_ = r.class_
  aDog : ∀ a ∈ w.awards, a.dog < s.dogs.length ∧ a.day = w.day ∧ a.judge = w.judge ∧ a.country = w.country
  aOne : ∀ a ∈ w.awards, a.kind = 1 → (w.holder s 0 (s.dog a.dog).sex).isSome = true
  aFive : ∀ a ∈ w.awards, a.kind = 5 → (w.holder s 4 (s.dog a.dog).sex).isSome = true
  aWide : w.wide = false → ∀ a ∈ w.awards, a.kind ≠ 4
  aBest : ∀ a ∈ w.awards, ∀ b ∈ w.awards, a.kind = 6 → b.kind = 6 → a = b
  aCert : ∀ a ∈ w.awards, (a.kind = 0 ∨ a.kind = 4) → ∃ e, w.entry a.dog = some e ∧ 2 ≤ e.class_ ∧ e.class_ ≤ 5
def awN (s : State) : Nat := match s.show_ with
  | none => 0
  | some w => w.awards.length
structure Good (s : State) (n : Nat) : Prop where
  d60 : s.dogs.length ≤ 60
  sex : ∀ d ∈ s.dogs, d.sex ≤ 1
  sh : ∀ w, s.show_ = some w → GoodW s w
  kept : s.kept.length + awN s ≤ 5 * n
  kd : ∀ a ∈ s.kept, a.dog < s.dogs.length
  len : ∀ w, s.show_ = some w → w.entries.length ≤ n ∧ w.rows.length ≤ n ∧ w.awards.length ≤ n
theorem Good.init (n : Nat) : Good Kg73.init n :=
  ⟨(by decide : 0 ≤ 60), (fun d h => nomatch h), (fun w h => nomatch h), Nat.zero_le _, (fun a h => nomatch h), (fun w h => nomatch h)⟩
theorem dog_sex {s : State} (h : ∀ d ∈ s.dogs, d.sex ≤ 1) (i : Nat) : (s.dog i).sex ≤ 1 := by
  unfold Kg73.State.dog
  rw [List.getD_eq_getElem?_getD]
  cases e : s.dogs[i]? with
  | none => simp
  | some d => simpa using h d (List.mem_of_getElem? e)

/-! ### rows, firsts -/
theorem row_mem {w : Show} {k x : Nat} {i : Nat} (h : i ∈ w.row k x) : ∃ r ∈ w.rows, i ∈ r.dogs ∧ r.class_ = k ∧ r.sex = x := by
  unfold Kg73.Show.row at h
  cases e : w.rows.find? (fun r => r.class_ == k && r.sex == x) with
  | none => rw [e] at h; simp at h
  | some r =>
    rw [e] at h
    have h1 := List.find?_some e
    have h2 := List.mem_of_find?_eq_some e
    simp only [Bool.and_eq_true, beq_iff_eq] at h1
    exact ⟨r, h2, by simpa using h, h1.1, h1.2⟩
theorem row_entry {s : State} {w : Show} (g : GoodW s w) {k x i : Nat} (h : i ∈ w.row k x) : i < s.dogs.length ∧ ∃ e, w.entry i = some e ∧ e.class_ = k := by
  obtain ⟨r, hr, hi, hk, _⟩ := row_mem h
  obtain ⟨a, e, he, hc⟩ := g.rDog r hr i hi
  exact ⟨a, e, he, hc.trans hk⟩
/-- the dog at a place of a class's row, if it is excellent -/
def placed (w : Show) (k x p : Nat) : List Nat := match (w.row k x)[p]? with
  | some i => if w.grade i = 3 then [i] else []
  | none => []
theorem placed_mem {w : Show} {k x p i : Nat} (h : i ∈ placed w k x p) : i ∈ w.row k x := by
  unfold placed at h
  cases e : (w.row k x)[p]? with
  | none => rw [e] at h; simp at h
  | some j =>
    rw [e] at h
    simp only at h
    split at h
    · have : i = j := by simpa using h
      rw [this]
      exact List.mem_of_getElem? e
    · simp at h
theorem placed_best {w : Show} {k x : Nat} : placed w k x 0 = (w.best k x).toList := by
  unfold placed Kg73.Show.best
  rw [List.head?_eq_getElem?]
  cases (w.row k x)[0]? with
  | none => rfl
  | some i =>
    simp only
    split <;> rfl
theorem placed_second {w : Show} {k x : Nat} : placed w k x 1 = ((((w.row k x).drop 1).head?.toList).filter fun j => w.grade j == 3) := by
  unfold placed
  rw [List.head?_eq_getElem?, List.getElem?_drop]
  cases (w.row k x)[1 + 0]? with
  | none => rfl
  | some i =>
    by_cases c : w.grade i = 3
    · simp [c]
    · simp [c]
theorem placed_len {w : Show} {k x p : Nat} : (placed w k x p).length ≤ 1 := by
  unfold placed
  split
  · split <;> simp
  · simp
theorem firsts_eq {w : Show} {x : Nat} : w.firsts x = placed w 2 x 0 ++ (placed w 3 x 0 ++ (placed w 4 x 0 ++ placed w 5 x 0)) := by
  have one : ∀ k, ((w.row k x).head?.toList).filter (fun i => w.grade i == 3) = placed w k x 0 := fun k => by
    unfold placed
    rw [List.head?_eq_getElem?]
    cases (w.row k x)[0]? with
    | none => rfl
    | some i =>
      by_cases c : w.grade i = 3
      · simp [c]
      · simp [c]
  have fm : Kg73.grown.filterMap (fun k => (w.row k x).head?) = (w.row 2 x).head?.toList ++ ((w.row 3 x).head?.toList ++ ((w.row 4 x).head?.toList ++ (w.row 5 x).head?.toList)) := by
    have fc : ∀ (f : Nat → Option Nat) (k : Nat) (r : List Nat), (k :: r).filterMap f = (f k).toList ++ r.filterMap f := fun f k r => by
      rw [List.filterMap_cons]
      cases f k <;> rfl
    unfold Kg73.grown
    rw [fc, fc, fc, fc, List.filterMap_nil, List.append_nil]
  unfold Kg73.Show.firsts
  rw [fm, List.filter_append, List.filter_append, List.filter_append, one, one, one, one]
theorem firsts_len {w : Show} {x : Nat} : (w.firsts x).length ≤ 4 := by
  rw [firsts_eq, List.length_append, List.length_append, List.length_append]
  have := @placed_len w 2 x 0
  have := @placed_len w 3 x 0
  have := @placed_len w 4 x 0
  have := @placed_len w 5 x 0
  omega
theorem firsts_entry {s : State} {w : Show} (g : GoodW s w) {x i : Nat} (h : i ∈ w.firsts x) : i < s.dogs.length ∧ ∃ e, w.entry i = some e ∧ 2 ≤ e.class_ ∧ e.class_ ≤ 5 := by
  rw [firsts_eq] at h
  have go : ∀ k, 2 ≤ k → k ≤ 5 → i ∈ placed w k x 0 → i < s.dogs.length ∧ ∃ e, w.entry i = some e ∧ 2 ≤ e.class_ ∧ e.class_ ≤ 5 := fun k h1 h2 hm => by
    obtain ⟨a, e, he, hc⟩ := row_entry g (placed_mem hm)
    exact ⟨a, e, he, by omega, by omega⟩
  simp only [List.mem_append] at h
  rcases h with h | h | h | h
  · exact go 2 (by omega) (by omega) h
  · exact go 3 (by omega) (by omega) h
  · exact go 4 (by omega) (by omega) h
  · exact go 5 (by omega) (by omega) h

/-! ### holders -/
theorem holder_some {w : Show} {s : State} {kind sex h : Nat} (e : w.holder s kind sex = some h) : ∃ a ∈ w.awards, a.dog = h ∧ a.kind = kind ∧ (s.dog a.dog).sex = sex := by
  unfold Kg73.Show.holder at e
  cases q : w.awards.find? (fun a => a.kind == kind && (s.dog a.dog).sex == sex) with
  | none => rw [q] at e; cases e
  | some a =>
    rw [q] at e
    have h1 := List.find?_some q
    have h2 := List.mem_of_find?_eq_some q
    simp only [Bool.and_eq_true, beq_iff_eq] at h1
    have e' : a.dog = h := Option.some.inj e
    exact ⟨a, h2, e', h1.1, h1.2⟩
theorem holder_entry {s : State} {w : Show} (g : GoodW s w) {kind sex h : Nat} (hk : kind = 0 ∨ kind = 4) (e : w.holder s kind sex = some h) : h < s.dogs.length ∧ ∃ e, w.entry h = some e ∧ 2 ≤ e.class_ ∧ e.class_ ≤ 5 := by
  obtain ⟨a, ha, rfl, hk', _⟩ := holder_some e
  exact ⟨(g.aDog a ha).1, g.aCert a ha (by rw [hk']; exact hk)⟩
theorem holder_wide {s : State} {w : Show} (g : GoodW s w) (hw : w.wide = false) (sex : Nat) : w.holder s 4 sex = none := by
  cases e : w.holder s 4 sex with
  | none => rfl
  | some h =>
    obtain ⟨a, ha, _, hk, _⟩ := holder_some e
    exact absurd hk (g.aWide hw a ha)

/-! ### each once -/
theorem once3 (a b c : Option Nat) (h1 : ∀ x y, a = some x → b = some y → x ≠ y) (h2 : ∀ x y, a = some x → c = some y → x ≠ y) (h3 : ∀ x y, b = some x → c = some y → x ≠ y) :
    (a.toList ++ (b.toList ++ c.toList)).eraseDups = a.toList ++ (b.toList ++ c.toList) := by
  cases a with
  | none => cases b with
    | none => cases c <;> simp [List.eraseDups_cons]
    | some y => cases c with
      | none => simp [List.eraseDups_cons]
      | some z =>
        have := h3 y z rfl rfl
        have this' : z ≠ y := fun q => this q.symm
        simp [List.eraseDups_cons, this']
  | some x => cases b with
    | none => cases c with
      | none => simp [List.eraseDups_cons]
      | some z =>
        have := h2 x z rfl rfl
        have this' : z ≠ x := fun q => this q.symm
        simp [List.eraseDups_cons, this']
    | some y =>
      have e1 := h1 x y rfl rfl
      have e1' : y ≠ x := fun q => e1 q.symm
      cases c with
      | none => simp [List.eraseDups_cons, e1']
      | some z =>
        have e2 := h2 x z rfl rfl
        have e2' : z ≠ x := fun q => e2 q.symm
        have e3 := h3 y z rfl rfl
        have e3' : z ≠ y := fun q => e3 q.symm
        simp [List.eraseDups_cons, e1', e2', e3']
theorem best_entry {s : State} {w : Show} (g : GoodW s w) {k x i : Nat} (h : w.best k x = some i) : i < s.dogs.length ∧ ∃ e, w.entry i = some e ∧ e.class_ = k := by
  have q : i ∈ placed w k x 0 := by rw [placed_best, h]; simp
  exact row_entry g (placed_mem q)
theorem finalists_once {s : State} {w : Show} (g : GoodW s w) (x : Nat) : (w.finalists s x).eraseDups = w.finalists s x := by
  unfold Kg73.Show.finalists
  have ne : ∀ {i j : Nat} {e e' : Entry}, w.entry i = some e → w.entry j = some e' → e.class_ ≠ e'.class_ → i ≠ j := fun h1 h2 hc z => by
    subst z
    rw [h1] at h2
    exact hc (congrArg Entry.class_ (Option.some.inj h2))
  refine once3 _ _ _ (fun i j h1 h2 => ?_) (fun i j h1 h2 => ?_) fun i j h1 h2 => ?_
  · obtain ⟨_, e, he, a, b⟩ := holder_entry g (.inl rfl) h1
    obtain ⟨_, e', he', c⟩ := best_entry g h2
    exact ne he he' (by omega)
  · obtain ⟨_, e, he, a, b⟩ := holder_entry g (.inl rfl) h1
    obtain ⟨_, e', he', c⟩ := best_entry g h2
    exact ne he he' (by omega)
  · obtain ⟨_, e, he, a⟩ := best_entry g h1
    obtain ⟨_, e', he', c⟩ := best_entry g h2
    exact ne he he' (by omega)
theorem finalists_eq {s : State} {w : Show} {x : Nat} : w.finalists s x = (w.holder s 0 x).toList ++ (placed w 1 x 0 ++ placed w 6 x 0) := by
  unfold Kg73.Show.finalists
  rw [placed_best, placed_best]
theorem finalists_dog {s : State} {w : Show} (g : GoodW s w) {x i : Nat} (h : i ∈ w.finalists s x) : i < s.dogs.length := by
  rw [finalists_eq] at h
  simp only [List.mem_append] at h
  rcases h with h | h | h
  · exact (holder_entry g (.inl rfl) (by simpa using h)).1
  · exact (row_entry g (placed_mem h)).1
  · exact (row_entry g (placed_mem h)).1
theorem nexts_eq {w : Show} {x h : Nat} {e : Entry} (he : w.entry h = some e) : w.nexts x h = (w.firsts x).filter (fun j => j != h) ++ placed w e.class_ x 1 := by
  unfold Kg73.Show.nexts
  rw [he, placed_second]
theorem nexts_dog {s : State} {w : Show} (g : GoodW s w) {x h i : Nat} {e : Entry} (he : w.entry h = some e) (hi : i ∈ w.nexts x h) : i < s.dogs.length := by
  rw [nexts_eq he] at hi
  simp only [List.mem_append, List.mem_filter] at hi
  rcases hi with hi | hi
  · exact (firsts_entry g hi.1).1
  · exact (row_entry g (placed_mem hi)).1

/-! ### who may have an award, as the program asks it -/
theorem may_other {w : Show} {s : State} {k x : Nat} (h0 : k ≠ 0) (h1 : k ≠ 1) (h4 : k ≠ 4) (h5 : k ≠ 5) (h6 : k ≠ 6) (h7 : k ≠ 7) : w.may s k x = [] := by
  unfold Kg73.Show.may
  rw [if_neg h0, if_neg h1, if_neg h4, if_neg h5, if_neg h6, if_neg h7]
/-- the certificate (0) or the international one (4) -/
theorem may_cert {w : Show} {s : State} {k x : Nat} (hk : k = 0 ∨ k = 4) (hw : k = 4 → w.wide = true) : w.may s k x = if (w.holder s k x).isSome = true then [] else w.firsts x := by
  rcases hk with rfl | rfl
  · rfl
  · unfold Kg73.Show.may
    rw [if_neg (by omega), if_neg (by omega), if_pos rfl, hw rfl]
    simp
theorem may_wide {s : State} {w : Show} (g : GoodW s w) {k x : Nat} (hk : k = 4 ∨ k = 5) (hw : w.wide = false) : w.may s k x = [] := by
  rcases hk with rfl | rfl
  · unfold Kg73.Show.may
    rw [if_neg (by omega), if_neg (by omega), if_pos rfl, if_pos (.inl hw)]
  · unfold Kg73.Show.may
    rw [if_neg (by omega), if_neg (by omega), if_neg (by omega), if_pos rfl, holder_wide g hw]
/-- the next one's: k is 1 or 5 -/
theorem may_next {w : Show} {s : State} {k x : Nat} (hk : k = 1 ∨ k = 5) : w.may s k x = match w.holder s (k - 1) x, w.holder s k x with
    | some h, none => w.nexts x h
    | _, _ => [] := by
  rcases hk with rfl | rfl <;> rfl
theorem may_best {s : State} {w : Show} (g : GoodW s w) {x : Nat} : w.may s 6 x = if (w.awards.any fun a => a.kind == 6) = true then [] else w.finalists s x := by
  show (if (w.awards.any fun a => a.kind == 6) = true then [] else (w.finalists s x).eraseDups) = _
  rw [finalists_once g]
theorem find_kind {w : Show} {s : State} (g : GoodW s w) (sx : ∀ d ∈ s.dogs, d.sex ≤ 1) {x : Nat} (hx : x ≤ 1) {a : Award} (e : w.awards.find? (fun a => a.kind == 6) = some a) :
    (w.holder s 6 (1 - x)).isSome = decide ((s.dog a.dog).sex ≠ x) := by
  have h1 := List.find?_some e
  have h2 := List.mem_of_find?_eq_some e
  have hk : a.kind = 6 := by simpa using h1
  have hs := dog_sex sx a.dog
  by_cases c : (s.dog a.dog).sex = x
  · have q : w.holder s 6 (1 - x) = none := by
      cases e2 : w.holder s 6 (1 - x) with
      | none => rfl
      | some h =>
        obtain ⟨b, hb, _, hbk, hbs⟩ := holder_some e2
        have := g.aBest a h2 b hb hk hbk
        subst this
        omega
    rw [q, decide_eq_false (fun z => z c)]
    rfl
  · have q : (w.holder s 6 (1 - x)).isSome = true := by
      unfold Kg73.Show.holder
      rw [Option.isSome_map, List.find?_isSome]
      exact ⟨a, h2, by simp [hk]; omega⟩
    rw [q, decide_eq_true c]
theorem may_other_best {s : State} {w : Show} (g : GoodW s w) (sx : ∀ d ∈ s.dogs, d.sex ≤ 1) {x : Nat} (hx : x ≤ 1) :
    w.may s 7 x = if (w.holder s 6 (1 - x)).isSome = true ∧ (w.awards.any fun a => a.kind == 7) = false then w.finalists s x else [] := by
  show (match w.awards.find? fun a => a.kind == 6 with
    | some a => if (w.awards.any fun b => b.kind == 7) = true ∨ (s.dog a.dog).sex = x then [] else (w.finalists s x).eraseDups
    | none => []) = _
  cases e : w.awards.find? (fun a => a.kind == 6) with
  | none =>
    have q : w.holder s 6 (1 - x) = none := by
      cases e2 : w.holder s 6 (1 - x) with
      | none => rfl
      | some h =>
        obtain ⟨b, hb, _, hbk, _⟩ := holder_some e2
        rw [List.find?_eq_none] at e
        exact absurd (by simp [hbk]) (e b hb)
    rw [q]
    simp
  | some a =>
    rw [find_kind g sx hx e, finalists_once g]
    simp only
    by_cases c1 : (w.awards.any fun b => b.kind == 7) = true
    · rw [if_pos (.inl c1), c1, if_neg (by simp)]
    · have c1' : (w.awards.any fun b => b.kind == 7) = false := by simpa using c1
      by_cases c2 : (s.dog a.dog).sex = x
      · rw [if_pos (.inr c2), decide_eq_false (fun z => z c2), if_neg (by simp)]
      · rw [if_neg (fun z => z.elim c1 c2), decide_eq_true c2, if_pos ⟨rfl, c1'⟩]
theorem may_dog {s : State} {w : Show} (g : GoodW s w) {k x i : Nat} (h : i ∈ w.may s k x) : i < s.dogs.length := by
  unfold Kg73.Show.may at h
  have nx : ∀ k, (k = 0 ∨ k = 4) → ∀ o : Option Nat, i ∈ (match w.holder s k x, o with
      | some h, none => w.nexts x h
      | _, _ => []) → i < s.dogs.length := fun k hk o h => by
    cases e : w.holder s k x with
    | none => rw [e] at h; simp at h
    | some j =>
      cases o with
      | some _ => rw [e] at h; simp at h
      | none =>
        rw [e] at h
        obtain ⟨_, en, he, _⟩ := holder_entry g hk e
        exact nexts_dog g he h
  have fi : i ∈ (w.finalists s x).eraseDups → i < s.dogs.length := fun h => by
    rw [finalists_once g] at h
    exact finalists_dog g h
  split at h
  · split at h
    · simp at h
    · exact (firsts_entry g h).1
  split at h
  · exact nx 0 (.inl rfl) _ h
  split at h
  · split at h
    · simp at h
    · exact (firsts_entry g h).1
  split at h
  · exact nx 4 (.inr rfl) _ h
  split at h
  · split at h
    · simp at h
    · exact fi h
  split at h
  · split at h
    · split at h
      · simp at h
      · exact fi h
    · simp at h
  · simp at h
theorem may_len {s : State} {w : Show} {k x : Nat} (g : GoodW s w) : (w.may s k x).length ≤ 5 := by
  have nx : ∀ k, (k = 0 ∨ k = 4) → ∀ o : Option Nat, (match w.holder s k x, o with
      | some h, none => w.nexts x h
      | _, _ => ([] : List Nat)).length ≤ 5 := fun k hk o => by
    cases e : w.holder s k x with
    | none => simp
    | some j =>
      cases o with
      | some _ => simp
      | none =>
        obtain ⟨_, en, he, _⟩ := holder_entry g hk e
        show (w.nexts x j).length ≤ 5
        rw [nexts_eq he, List.length_append]
        have h1 := List.length_filter_le (fun i => i != j) (w.firsts x)
        have h2 := @firsts_len w x
        have h3 := @placed_len w en.class_ x 1
        omega
  have fi : ((w.finalists s x).eraseDups).length ≤ 5 := by
    rw [finalists_once g, finalists_eq, List.length_append, List.length_append]
    have h1 := @placed_len w 1 x 0
    have h2 := @placed_len w 6 x 0
    have h3 : (w.holder s 0 x).toList.length ≤ 1 := by cases w.holder s 0 x <;> simp
    omega
  have fs := @firsts_len w x
  unfold Kg73.Show.may
  split
  · split
    · simp
    · omega
  split
  · exact nx 0 (.inl rfl) _
  split
  · split
    · simp
    · omega
  split
  · exact nx 4 (.inr rfl) _
  split
  · split
    · simp
    · exact fi
  split
  · split
    · split
      · simp
      · exact fi
    · simp
  · simp
end Ds

/-! What the layer lacks for this program: len(set(..)) with equal items, readings as values (Ev) of more words, refusals. -/
namespace Ds
open PySem PySem.Spec PyProof.Rows L2 Evl

/-! ### a whole number of the module -/
theorem pe_globI {X : Cx} {x : Str} {n : Int} {pos : Pos} (hg : Gl X x) (h : ∃ t, X.mg x = some (.int n t)) (hd : (x == ("__debug__" : Str)) = false := by decide) : PE X (.Name x pos) (tC (.int n)) := by
  obtain ⟨t, h⟩ := h
  exact pe_glob hg h ⟨t, rfl⟩ hd

/-! ### len(set(xs)), equal items among xs too -/
def distinct (ns : List Int) : List Int := firstMet (fun i => ns.getD i 0) ns.length
def tLenSet (K : PySem.W.Frag) (ta : TE) : TE := fun σ H Q => ta σ H fun x H1 =>
  ∃ (l : Addr) (ns : List Int), x = .ref l ∧ SqL K H1 l (ns.map V.int) ∧ ns.length ≤ 4000 ∧ Q (.int ((distinct ns).length : Nat)) H1
theorem are_ints : ∀ {ns : List Int} {us : List Value}, Vals (ns.map V.int) us → IntsAre us ns
  | [], _, .nil => .nil
  | n :: _, _, .cons r t => by
    obtain ⟨tk, e⟩ := r
    subst e
    exact .cons n tk (are_ints t)
theorem pe_lenSet {X : Cx} {a : Expr} {ta : TE} {p p2 q pos : Pos} (hg : Gl X "len") (hm : X.mg "len" = none) (gs : Gl X "set") (ms : X.mg "set" = none)
    (ha : PE X a ta) (hc : X.calm = true := by rfl) (na : starEach [a] X.env = (false, eval a X.env) :: starEach [] X.env := by rfl) :
    PE X (.Call (.Name "len" p) [.Call (.Name "set" p2) [a] [] q] [] pos) (tLenSet X.K ta) := by
  constructor
  intro pins s σ H Q I h
  refine Call_ (ld_blt I hg hm boot_len (callWith_builtin1 (args_cons ?_ rfl) rfl rfl))
  refine Call_ (ld_blt I gs ms boot_set ?_)
  refine callWith_type1 (args_cons (thn (ha.run pins s σ H _ I h) fun v s1 hv => args_nil ?_) na) na rfl
  obtain ⟨x, H1, I1, r1, l, ns, rfl, hq, hl, q1⟩ := hv
  cases r1
  obtain ⟨its, r, pl, _⟩ := I1.list hq
  have sz : its.toArray.size = ns.length := by
    rw [List.size_toArray, ← r.length, List.length_map]
  refine call_set_list (I1.ok.hd hc) pl.isList (by simpa using are_ints r) (by rw [sz]; unfold scanBound; omega) fun h' tk hS hk => ?_
  apply args_nil
  rw [sz] at hS
  obtain ⟨ob, cells, _, _, at_, exact_, data, _, _, _, free, count⟩ := hS
  have there : Inv X pins σ H1 { s1 with heap := h', toks := tk } :=
    I1.kept fun _ _ z => hk _ _ (Heap.lt_size z) z
  have small : (distinct ns).length ≤ ns.length := firstMet_length_le _ _
  refine call_len_set at_ exact_ data free (by rw [count]; unfold distinct at small; omega) ?_
  exact ⟨.int ((distinct ns).length : Nat), H1, there.tok _, ⟨_, by rw [count]; rfl⟩, q1⟩

/-! ### promises of defs that leave what is known: a value, a new list -/
def spV (R : List V → Hp → V → Prop) : Sp := fun vs H Q _ => ∃ z, R vs H z ∧ ∀ H', Ex H H' → Q z H'
def spL (R : List V → Hp → List V → Prop) : Sp := fun vs H Q _ => ∃ xs, R vs H xs ∧ ∀ p H', H p = none → Ex H H' → H' p = some (.lst xs) → Q (.ref p) H'
theorem spV_of {R : List V → Hp → V → Prop} {vs : List V} {H : Hp} {z : V} (h : ∀ H1, Ex H H1 → R vs H1 z) : SpV (spV R) vs H z :=
  fun H1 e Q q E => ⟨z, h H1 e, fun H' e' => q H' e'⟩
theorem spL_of {R : List V → Hp → List V → Prop} {vs : List V} {H : Hp} {xs : List V} (h : ∀ H1, Ex H H1 → R vs H1 xs) : SpL (spL R) vs H xs :=
  fun H1 e Q q E => ⟨xs, h H1 e, fun p H' hp e' h' => q p H' hp e' h'⟩

section
variable {K : PySem.W.Frag} {σ : L2.St} {H H' : Hp} {D : Ends} {x y z v : V}
variable {ta tb te tx : TE} {t u : TT} {tu tw tz : TS} {g : TG}
theorem EvU.mono {xs : List V} (e : Ex H H') (h : EvU te σ H xs) : EvU te σ H' xs := fun H1 a Q q => h H1 (e.trans a) Q q

/-! ### fields, methods -/
theorem ev_fld {a C dx : Addr} {fs : List (Str × V)} {f : Str} (ha : Ev ta σ H (.ref a)) (ho : H a = some (.ins C dx fs)) (cl : Cls K C) (na : NoAttr K C f) (hl : fs.lookup f = some v) :
    Ev (tFld K ta f) σ H v := fun H1 e Q q => ha H1 e _ fun H2 e2 => ⟨a, C, dx, fs, v, rfl, (e.trans e2) a _ ho, cl, na, hl, q H2 e2⟩
theorem ev_meth {a C dx : Addr} {fs : List (Str × V)} {m : Str} {sp : Sp} {E : XK} {tr : TA} {vs : List V} (ha : Ev ta σ H (.ref a)) (ho : H a = some (.ins C dx fs)) (hl : fs.lookup m = none) (hv : EvA tr σ H vs)
    (hs : SpV sp (.ref a :: vs) H z) : Ev (tMeth C m sp [] E ta tr) σ H z := fun H1 e Q q => ha H1 e _ fun H2 e2 =>
  ⟨a, dx, fs, rfl, (e.trans e2) a _ ho, hl, hv H2 (e.trans e2) _ fun H3 e3 => by
    rw [List.append_nil]
    exact hs H3 ((e.trans e2).trans e3) Q (fun H4 e4 => q H4 ((e2.trans e3).trans e4)) E⟩
theorem el_meth {a C dx : Addr} {fs : List (Str × V)} {m : Str} {sp : Sp} {E : XK} {tr : TA} {vs xs : List V} (ha : Ev ta σ H (.ref a)) (ho : H a = some (.ins C dx fs)) (hl : fs.lookup m = none) (hv : EvA tr σ H vs)
    (hs : SpL sp (.ref a :: vs) H xs) : EvL (tMeth C m sp [] E ta tr) σ H xs := fun H1 e Q q => ha H1 e _ fun H2 e2 =>
  ⟨a, dx, fs, rfl, (e.trans e2) a _ ho, hl, hv H2 (e.trans e2) _ fun H3 e3 => by
    rw [List.append_nil]
    exact hs H3 ((e.trans e2).trans e3) Q (fun p H4 hp e4 h4 => q p H4 (fresh_back (e2.trans e3) hp) ((e2.trans e3).trans e4) h4) E⟩
/-- f(e, ..) of a def of the module -/
theorem ev_fn {sp : Sp} {E : XK} {tr : TA} {vs : List V} (hv : EvA tr σ H vs) (hs : SpV sp vs H z) : Ev (tCall sp [] E tr) σ H z := fun H1 e Q q => hv H1 e _ fun H3 e3 => by
  rw [List.append_nil]
  exact hs H3 (e.trans e3) Q (fun H4 e4 => q H4 (e3.trans e4)) E

/-! ### comparisons -/
theorem decI {i j : Int} : decide (V.int i = V.int j) = decide (i = j) := by
  by_cases h : i = j
  · rw [h]
    simp
  · rw [decide_eq_false h, decide_eq_false fun z => h (V.int.inj z)]
theorem ev_eqI {i j : Int} (ha : Ev ta σ H (.int i)) (hb : Ev tb σ H (.int j)) : Ev (tOp rEq ta tb) σ H (.bl (decide (i = j))) := by
  have q := ev_op ha hb (rv_eq rfl)
  rw [decI] at q
  exact q
theorem ev_neI {i j : Int} (ha : Ev ta σ H (.int i)) (hb : Ev tb σ H (.int j)) : Ev (tOp rNe ta tb) σ H (.bl (!decide (i = j))) := by
  have q := ev_op ha hb (rv_ne rfl)
  rw [decI] at q
  exact q
theorem ev_I0 {f : Int → Int → V} {i j : Int} (ha : Ev ta σ H (.int i)) (hb : Ev tb σ H (.int j)) : Ev (tOp (rI0 f) ta tb) σ H (f i j) := ev_op ha hb rv_I0
theorem ev_neg {i : Int} (ha : Ev ta σ H (.int i)) : Ev (tUn (rU fun i => .int (-i)) ta) σ H (.int (-i)) := ev_un ha ru_neg
theorem ev_isN (ha : Ev ta σ H x) : Ev (tIsN ta) σ H (.bl (decide (x = .non))) := fun H1 e _ q => ha H1 e _ fun H2 e2 => q H2 e2
theorem ev_notN (ha : Ev ta σ H x) : Ev (tNotN ta) σ H (.bl (!decide (x = .non))) := fun H1 e _ q => ha H1 e _ fun H2 e2 => q H2 e2
/-- a op b op c of whole numbers -/
theorem ev_chain {f f' : Int → Int → Bool} {i j k : Int} (ha : Ev ta σ H (.int i)) (hb : Ev tb σ H (.int j)) (hc : Ev te σ H (.int k)) :
    Ev (tChain (rI0 fun i j => .bl (f i j)) (rI0 fun i j => .bl (f' i j)) ta tb te) σ H (.bl (f i j && f' j k)) := fun H1 e Q q =>
  ha H1 e _ fun H2 e2 => hb H2 (e.trans e2) _ fun H3 e3 => ⟨i, j, rfl, rfl, f i j, rfl, by
    cases h : f i j with
    | true =>
      rw [if_pos rfl]
      refine hc H3 ((e.trans e2).trans e3) _ fun H4 e4 => ⟨j, k, rfl, rfl, ?_⟩
      rw [h] at q
      exact q H4 ((e2.trans e3).trans e4)
    | false =>
      rw [if_neg Bool.false_ne_true]
      rw [h] at q
      exact q H3 (e2.trans e3)⟩
theorem ev_max {a : Addr} {ns : List Int} {m : Int} (ha : Ev ta σ H (.ref a)) (h : SqL K H a (ns.map V.int)) (hn : 0 < ns.length) (hm : ∀ m', m' ∈ ns → (∀ y, y ∈ ns → y ≤ m') → m' = m) :
    Ev (tCB (rMax K) (tCons ta tNil)) σ H (.int m) := fun H1 e Q q => ha H1 e _ fun H2 e2 => ⟨a, ns, rfl, ex_l (e.trans e2) h, hn, fun m' h1 h2 => by
  rw [hm m' h1 h2]
  exact q H2 e2⟩
theorem ev_min {a : Addr} {ns : List Int} {m : Int} (ha : Ev ta σ H (.ref a)) (h : SqL K H a (ns.map V.int)) (hn : 0 < ns.length) (hm : ∀ m', m' ∈ ns → (∀ y, y ∈ ns → m' ≤ y) → m' = m) :
    Ev (tCB (rMin K) (tCons ta tNil)) σ H (.int m) := fun H1 e Q q => ha H1 e _ fun H2 e2 => ⟨a, ns, rfl, ex_l (e.trans e2) h, hn, fun m' h1 h2 => by
  rw [hm m' h1 h2]
  exact q H2 e2⟩
theorem ev_lenSet {ns : List Int} (ha : EvL ta σ H (ns.map V.int)) (hl : ns.length ≤ 4000) : Ev (tLenSet K ta) σ H (.int ((distinct ns).length : Nat)) := fun H1 e Q q =>
  ha H1 e _ fun p H2 _ e2 h2 => ⟨p, ns, rfl, sq_of h2, hl, q H2 e2⟩
theorem ev_lenSetV {a : Addr} {ns : List Int} (ha : Ev ta σ H (.ref a)) (h : SqL K H a (ns.map V.int)) (hl : ns.length ≤ 4000) : Ev (tLenSet K ta) σ H (.int ((distinct ns).length : Nat)) := fun H1 e Q q =>
  ha H1 e _ fun H2 e2 => ⟨a, ns, rfl, ex_l (e.trans e2) h, hl, q H2 e2⟩
theorem ev_any {bs : List Bool} (ha : EvL ta σ H (bs.map V.bl)) : Ev (tCB (rAny K) (tCons ta tNil)) σ H (.bl (bs.any id)) := fun H1 e Q q =>
  ha H1 e _ fun p H2 _ e2 h2 => ⟨p, bs, rfl, sq_of h2, q H2 e2⟩
theorem ev_all {bs : List Bool} (ha : EvL ta σ H (bs.map V.bl)) : Ev (tCB (rAll K) (tCons ta tNil)) σ H (.bl (bs.all id)) := fun H1 e Q q =>
  ha H1 e _ fun p H2 _ e2 h2 => ⟨p, bs, rfl, sq_of h2, q H2 e2⟩
theorem ev_lenT {a : Addr} {kvs : List (List Key × V)} (ha : Ev ta σ H (.ref a)) (h : H a = some (.dT kvs)) : Ev (tCB rLenT (tCons ta tNil)) σ H (.int ((kvs.length : Nat) : Int)) := fun H1 e Q q =>
  ha H1 e _ fun H2 e2 => ⟨a, kvs, rfl, (e.trans e2) a _ h, q H2 e2⟩
/-- i in (a, b, ..), i not in (a, b, ..): whole numbers written -/
theorem inV_ints (i : Int) : ∀ ns : List Int, inV (.int i) (ns.map V.int) = decide (i ∈ ns)
  | [] => by simp [inV]
  | n :: ns => by
    have ih := inV_ints i ns
    have q : inV (.int i) ((n :: ns).map V.int) = (eqV (.int n) (.int i) || inV (.int i) (ns.map V.int)) := rfl
    rw [q, ih]
    have q2 : eqV (.int n) (.int i) = decide (n = i) := by
      show (n == i) = _
      by_cases h : n = i <;> simp [h]
    rw [q2]
    by_cases h : i = n
    · simp [h]
    · have h' : ¬ n = i := fun z => h z.symm
      simp [h, h']
theorem flat_ints : ∀ ns : List Int, (ns.map V.int).all flatV = true
  | [] => rfl
  | _ :: ns => flat_ints ns
theorem ev_inI {i : Int} {ns : List Int} (ha : Ev ta σ H (.int i)) (hb : EvU tb σ H (ns.map V.int)) : Ev (tOp (rIn K false) ta tb) σ H (.bl (decide (i ∈ ns))) := by
  have q := ev_inU (K := K) ha hb rfl (flat_ints ns)
  rw [inV_ints] at q
  exact q
theorem ev_niI {i : Int} {ns : List Int} (ha : Ev ta σ H (.int i)) (hb : EvU tb σ H (ns.map V.int)) : Ev (tOp (rIn K true) ta tb) σ H (.bl (!decide (i ∈ ns))) := by
  have q := ev_niU (K := K) ha hb rfl (flat_ints ns)
  rw [inV_ints] at q
  exact q
theorem ev_niG {i : Int} {ns : List Int} {a : Addr} (ha : Ev ta σ H (.int i)) (hb : Ev tb σ H (.ref a)) (hq : SqT K H a (ns.map V.int)) : Ev (tOp (rIn K true) ta tb) σ H (.bl (!decide (i ∈ ns))) := by
  have q := ev_op ha hb (rv_niT hq rfl (flat_ints ns))
  rw [inV_ints] at q
  exact q

/-! ### dicts -/
theorem ev_getK {a : Addr} {kvs : List (Key × V)} {i : Int} (ha : Ev ta σ H (.ref a)) (hd : H a = some (.dK kvs)) (hk : Ev tb σ H (.int i)) (hx : Ev te σ H z) :
    Ev (tDGet2 ta tb te) σ H ((valV kvs (Sum.inl i)).getD z) := fun H1 e Q q =>
  ha H1 e _ fun H2 e2 => ⟨a, rfl, .inl ⟨kvs, .inl ((e.trans e2) a _ hd)⟩, hk H2 (e.trans e2) _ fun H3 e3 => hx H3 ((e.trans e2).trans e3) _ fun H4 e4 =>
    ⟨_, DGet.k (k := Sum.inl i) ((((e.trans e2).trans e3).trans e4) a _ hd), q H4 ((e2.trans e3).trans e4)⟩⟩
/-- d.get((i, j), []): what stands there, or a new empty list; either way a list of xs -/
theorem ev_getT {a : Addr} {kvs : List (List Key × V)} {k : List Key} {xs : List V} (ha : Ev ta σ H (.ref a)) (hd : H a = some (.dT kvs)) (hk : EvU tb σ H (k.map kV)) (hx : EvL te σ H [])
    (h1 : ∀ w, valV kvs k = some w → ∃ p, w = .ref p ∧ H p = some (.lst xs)) (h2 : valV kvs k = none → xs = []) :
    ∀ H1, Ex H H1 → ∀ Q : VK, (∀ p H2, Ex H1 H2 → H2 p = some (.lst xs) → Q (.ref p) H2) → tDGet2 ta tb te σ H1 Q := fun H1 e Q q =>
  ha H1 e _ fun H2 e2 => ⟨a, rfl, .inr ⟨kvs, .inl ((e.trans e2) a _ hd)⟩, hk H2 (e.trans e2) _ fun b H3 _ e3 hb => hx H3 ((e.trans e2).trans e3) _ fun l H4 _ e4 hl =>
    ⟨_, DGet.t ((((e.trans e2).trans e3).trans e4) a _ hd) (e4 b _ hb), by
      cases w : valV kvs k with
      | none =>
        rw [h2 w] at q
        exact q l H4 ((e2.trans e3).trans e4) hl
      | some w' =>
        obtain ⟨p, rfl, hp⟩ := h1 w' w
        exact q p H4 ((e2.trans e3).trans e4) ((((e.trans e2).trans e3).trans e4) p _ hp)⟩⟩
theorem ev_inT {a : Addr} {kvs : List (List Key × V)} {k : List Key} (hk : EvU ta σ H (k.map kV)) (hb : Ev tb σ H (.ref a)) (hd : H a = some (.dT kvs)) : Ev (tDIn ta tb) σ H (.bl (valV kvs k).isSome) := fun H1 e Q q =>
  hk H1 e _ fun b H2 _ e2 hb2 => hb H2 (e.trans e2) _ fun H3 e3 => ⟨a, _, rfl, DGet.t (((e.trans e2).trans e3) a _ hd) (e3 b _ hb2), q H3 (e2.trans e3)⟩
theorem q_putK {a : Addr} {kvs : List (Key × V)} {i : Int} (hv : Ev te σ H v) (ha : Ev ta σ H (.ref a)) (hk : Ev tb σ H (.int i)) (hd : H a = some (.dK kvs)) (hl : kvs.length < 100000)
    (k : ∀ H1, Ex H H1 → tz D σ (upd H1 a (.dK (putK kvs (Sum.inl i) v)))) : tSeq (sDPut ta tb te) tz D σ H := hv H (Ex.refl H) _ fun H1 e1 => ha H1 e1 _ fun H2 e2 => hk H2 (e1.trans e2) _ fun H3 e3 =>
  ⟨a, _, rfl, DPut.k (k := Sum.inl i) (((e1.trans e2).trans e3) a _ hd) (sz_lt hl), k H3 ((e1.trans e2).trans e3)⟩
theorem q_putT {a : Addr} {kvs : List (List Key × V)} {ks : List Key} (hv : Ev te σ H v) (ha : Ev ta σ H (.ref a)) (hk : EvU tb σ H (ks.map kV)) (hd : H a = some (.dT kvs)) (hl : kvs.length < 100000)
    (k : ∀ b H1, H b = none → Ex H H1 → H1 b = some (.tup (ks.map kV)) → tz D σ (upd H1 a (.dT (putK kvs ks v)))) : tSeq (sDPut ta tb te) tz D σ H := hv H (Ex.refl H) _ fun H1 e1 => ha H1 e1 _ fun H2 e2 => hk H2 (e1.trans e2) _ fun b H3 hn e3 hb =>
  ⟨a, _, rfl, DPut.t (((e1.trans e2).trans e3) a _ hd) hb (sz_lt hl), k b H3 (fresh_back (e1.trans e2) hn) ((e1.trans e2).trans e3) hb⟩

/-! ### lists put together -/
theorem el_catV {l : Addr} {xs zs : List V} (ha : Ev ta σ H (.ref l)) (hl : H l = some (.lst xs)) (hb : EvL tb σ H zs) (hz : xs.length + zs.length ≤ 100000) : EvL (tOp rCat ta tb) σ H (xs ++ zs) := fun H1 e Q q =>
  ha H1 e _ fun H2 e2 => hb H2 (e.trans e2) _ fun p H3 _ e3 hp => ⟨l, p, xs, zs, rfl, rfl, ((e.trans e2).trans e3) l _ hl, hp, sz_of hz, fun r hr => q r _ (fresh_back (e2.trans e3) hr) ((e2.trans e3).trans (Ex.new hr)) upd_same⟩
theorem el_catL {xs zs : List V} (ha : EvL ta σ H xs) (hb : EvL tb σ H zs) (hz : xs.length + zs.length ≤ 100000) : EvL (tOp rCat ta tb) σ H (xs ++ zs) := fun H1 e Q q =>
  ha H1 e _ fun l H2 _ e2 hl => hb H2 (e.trans e2) _ fun p H3 _ e3 hp => ⟨l, p, xs, zs, rfl, rfl, e3 l _ hl, hp, sz_of hz, fun r hr => q r _ (fresh_back (e2.trans e3) hr) ((e2.trans e3).trans (Ex.new hr)) upd_same⟩
/-- xs.extend(e), e a new list -/
theorem s_ext {l : Addr} {xs zs : List V} (hl : H l = some (.lst xs)) (ha : Ev ta σ H (.ref l)) (h : EvL te σ H zs) (hz : xs.length + zs.length ≤ 100000) (k : ∀ H1, Ex H H1 → D.nx σ (upd H1 l (.lst (xs ++ zs)))) :
    tDrop (tBM K "list" rExtend ta (tCons te tNil)) D σ H := ha H (Ex.refl H) _ fun H1 e1 =>
  ⟨Or.inl ⟨rfl, xs, sq_of (e1 l _ hl)⟩, h H1 e1 _ fun p H2 _ e2 hp => ⟨l, p, xs, zs, rfl, rfl, e2 l _ (e1 l _ hl), hp, sz_of hz, k H2 (e1.trans e2)⟩⟩
theorem q_ext {l : Addr} {xs zs : List V} (hl : H l = some (.lst xs)) (ha : Ev ta σ H (.ref l)) (h : EvL te σ H zs) (hz : xs.length + zs.length ≤ 100000) (k : ∀ H1, Ex H H1 → tz D σ (upd H1 l (.lst (xs ++ zs)))) :
    tSeq (tDrop (tBM K "list" rExtend ta (tCons te tNil))) tz D σ H := s_ext (D := { D with nx := tz D }) hl ha h hz k
/-- .. e a list that stands -/
theorem s_extV {l b : Addr} {xs zs : List V} (hl : H l = some (.lst xs)) (ha : Ev ta σ H (.ref l)) (h : Ev te σ H (.ref b)) (hb : H b = some (.lst zs)) (hz : xs.length + zs.length ≤ 15000000) (k : ∀ H1, Ex H H1 → D.nx σ (upd H1 l (.lst (xs ++ zs)))) :
    tDrop (tBM K "list" rExtend ta (tCons te tNil)) D σ H := ha H (Ex.refl H) _ fun H1 e1 =>
  ⟨Or.inl ⟨rfl, xs, sq_of (e1 l _ hl)⟩, h H1 e1 _ fun H2 e2 => ⟨l, b, xs, zs, rfl, rfl, e2 l _ (e1 l _ hl), (e1.trans e2) b _ hb, Nat.le_trans hz (by decide), k H2 (e1.trans e2)⟩⟩
/-- xs.append(e) on long lists -/
theorem q_appV {l : Addr} {xs : List V} (hl : H l = some (.lst xs)) (ha : Ev ta σ H (.ref l)) (h : Ev te σ H v) (hz : xs.length < 15000000) (k : ∀ H1, Ex H H1 → tz D σ (upd H1 l (.lst (xs ++ [v])))) :
    tSeq (tDrop (tBM K "list" rAppend ta (tCons te tNil))) tz D σ H := ha H (Ex.refl H) _ fun H1 e1 =>
  ⟨Or.inl ⟨rfl, xs, sq_of (e1 l _ hl)⟩, h H1 e1 _ fun H2 e2 => ⟨l, xs, v, rfl, rfl, e2 l _ (e1 l _ hl), Nat.lt_of_lt_of_le hz (by decide), k H2 (e1.trans e2)⟩⟩

/-! ### comprehensions over a list that is told as images -/
def Cp {α : Type} (H : Hp) (l : List α) (p : α → Bool) (f : α → V) (Dl : Addr) (i : Nat) (H' : Hp) : Prop := H Dl = none ∧ Ex H H' ∧ H' Dl = some (.lst (((l.take i).filter p).map f))
theorem cp_turn {α : Type} {l : List α} {p : α → Bool} {f : α → V} {Dl : Addr} {i : Nat} {a : α} {σ2 : L2.St} (c : Cp H l p f Dl i H') (hi : l[i]? = some a) (hz : l.length ≤ 50000) (ht : EvT t σ2 H (p a)) (he : p a = true → Ev te σ2 H (f a)) :
    t σ2 H' fun b H3 => if b = true then te σ2 H3 fun y H4 => ∃ acc, H4 Dl = some (.lst acc) ∧ acc.length < sizeLine ∧ Cp H l p f Dl (i + 1) (upd H4 Dl (.lst (acc ++ [y]))) else Cp H l p f Dl (i + 1) H3 := by
  obtain ⟨p1, p2, p3⟩ := c
  apply ht H' p2
  intro H3 e3
  have step : l.take (i + 1) = l.take i ++ [a] := take_snoc hi
  cases hf : p a with
  | true =>
    rw [if_pos rfl]
    refine he hf H3 (p2.trans e3) _ fun H4 e4 => ⟨_, e4 Dl _ (e3 Dl _ p3), ?_, p1, Ex.mut ((p2.trans e3).trans e4) p1, ?_⟩
    · refine sz_lt ?_
      rw [List.length_map]
      have h1 := List.length_filter_le p (l.take i)
      rw [List.length_take] at h1
      omega
    · rw [step, List.filter_append, List.map_append, upd_same]
      simp [hf]
  | false =>
    rw [if_neg Bool.false_ne_true]
    refine ⟨p1, p2.trans e3, ?_⟩
    rw [step, List.filter_append, List.map_append]
    simp [hf]
    have q := e3 Dl _ p3
    simpa using q
theorem el_lc {α : Type} {l : List α} {val : α → V} {a : Addr} {tl : TE} {j : Nat} {vs : List Nat} (p : α → Bool) (f : α → V) (h : Ev tl σ H (.ref a)) (hx : SqL K H a (l.map val)) (hz : l.length ≤ 50000) (hw : ∀ x, wipe ((wipe σ vs).set j (some x)) vs = wipe σ vs)
    (ht : ∀ (x : α) H1, Ex H H1 → x ∈ l → EvT t ((wipe σ vs).set j (some (val x))) H1 (p x)) (he : ∀ (x : α) H1, Ex H H1 → x ∈ l → p x = true → Ev te ((wipe σ vs).set j (some (val x))) H1 (f x)) :
    EvL (tLc (iList K tl) (gName j) t te vs) σ H ((l.filter p).map f) := fun H0 e Q q => h H0 e _ fun H1 e1 => ⟨a, rfl, ⟨_, ex_l (e.trans e1) hx⟩, fun Dl hD =>
  lc_list (xs := l.map val) (Cp H1 l p f Dl) ⟨hD, Ex.new hD, by simp [upd_same]⟩ (fun i H' _ p => ex_l ((e.trans e1).trans p.2.1) hx) (fun i x H' hi c => by
    rw [List.getElem?_map] at hi
    cases w : l[i]? with
    | none => rw [w] at hi; cases hi
    | some y =>
      rw [w] at hi
      have hi' : val y = x := Option.some.inj hi
      subst hi'
      have my : y ∈ l := List.mem_of_getElem? w
      exact ⟨hw _, cp_turn c w hz (ht y H1 (e.trans e1) my) fun hp => he y H1 (e.trans e1) my hp⟩)
    (fun H' c => by
      have c3 := c.2.2
      rw [List.length_map, List.take_length] at c3
      exact q Dl H' (fresh_back e1 c.1) (e1.trans c.2.1) c3)⟩
/-- .. over a new list -/
theorem el_lcN {α : Type} {l : List α} {val : α → V} {tl : TE} {j : Nat} {vs : List Nat} (p : α → Bool) (f : α → V) (h : EvL tl σ H (l.map val)) (hz : l.length ≤ 50000) (hw : ∀ x, wipe ((wipe σ vs).set j (some x)) vs = wipe σ vs)
    (ht : ∀ (x : α) H1, Ex H H1 → x ∈ l → EvT t ((wipe σ vs).set j (some (val x))) H1 (p x)) (he : ∀ (x : α) H1, Ex H H1 → x ∈ l → p x = true → Ev te ((wipe σ vs).set j (some (val x))) H1 (f x)) :
    EvL (tLc (iList K tl) (gName j) t te vs) σ H ((l.filter p).map f) := fun H0 e Q q => h H0 e _ fun a H1 ha e1 hx => ⟨a, rfl, ⟨_, sq_of hx⟩, fun Dl hD =>
  lc_list (xs := l.map val) (Cp H1 l p f Dl) ⟨hD, Ex.new hD, by simp [upd_same]⟩ (fun i H' _ p => sq_of (p.2.1 a _ hx)) (fun i x H' hi c => by
    rw [List.getElem?_map] at hi
    cases w : l[i]? with
    | none => rw [w] at hi; cases hi
    | some y =>
      rw [w] at hi
      have hi' : val y = x := Option.some.inj hi
      subst hi'
      have my : y ∈ l := List.mem_of_getElem? w
      exact ⟨hw _, cp_turn c w hz (ht y H1 (e.trans e1) my) fun hp => he y H1 (e.trans e1) my hp⟩)
    (fun H' c => by
      have c3 := c.2.2
      rw [List.length_map, List.take_length] at c3
      exact q Dl H' (fresh_back e1 c.1) (e1.trans c.2.1) c3)⟩
/-- .. its items pairs, the target two names -/
theorem el_lcT {α : Type} {l : List α} {val : α → Addr} {v1 v2 : α → V} {a : Addr} {tl : TE} {i j : Nat} {vs : List Nat} (p : α → Bool) (f : α → V) (h : Ev tl σ H (.ref a)) (hx : SqL K H a (l.map fun x => V.ref (val x))) (hz : l.length ≤ 50000)
    (hp2 : ∀ x ∈ l, H (val x) = some (.tup [v1 x, v2 x])) (hw : ∀ x y, wipe (((wipe σ vs).set i (some x)).set j (some y)) vs = wipe σ vs)
    (ht : ∀ (x : α) H1, Ex H H1 → x ∈ l → EvT t (((wipe σ vs).set i (some (v1 x))).set j (some (v2 x))) H1 (p x)) (he : ∀ (x : α) H1, Ex H H1 → x ∈ l → p x = true → Ev te (((wipe σ vs).set i (some (v1 x))).set j (some (v2 x))) H1 (f x)) :
    EvL (tLc (iList K tl) (gTup K 2 (gCons (gName i) (gCons (gName j) gNil))) t te vs) σ H ((l.filter p).map f) := fun H0 e Q q => h H0 e _ fun H1 e1 => ⟨a, rfl, ⟨_, ex_l (e.trans e1) hx⟩, fun Dl hD =>
  lc_list (xs := l.map fun x => V.ref (val x)) (Cp H1 l p f Dl) ⟨hD, Ex.new hD, by simp [upd_same]⟩ (fun i H' _ p => ex_l ((e.trans e1).trans p.2.1) hx) (fun k x H' hi c => by
    rw [List.getElem?_map] at hi
    cases w : l[k]? with
    | none => rw [w] at hi; cases hi
    | some y =>
      rw [w] at hi
      have hi' : V.ref (val y) = x := Option.some.inj hi
      subst hi'
      have my : y ∈ l := List.mem_of_getElem? w
      exact ⟨val y, [v1 y, v2 y], rfl, st_of (((e.trans e1).trans c.2.1) _ _ (hp2 y my)), rfl, v1 y, [v2 y], rfl, v2 y, [], rfl, rfl, hw _ _, cp_turn c w hz (ht y H1 (e.trans e1) my) fun hp => he y H1 (e.trans e1) my hp⟩)
    (fun H' c => by
      have c3 := c.2.2
      rw [List.length_map, List.take_length] at c3
      exact q Dl H' (fresh_back e1 c.1) (e1.trans c.2.1) c3)⟩

/-! ### loops over a list that is told as images; the word speaks of the part gone through -/
theorem map_at {α : Type} {l : List α} {val : α → V} {i : Nat} {x : V} (h : (l.map val)[i]? = some x) : ∃ y, l[i]? = some y ∧ x = val y := by
  rw [List.getElem?_map] at h
  cases w : l[i]? with
  | none => rw [w] at h; cases h
  | some y =>
    rw [w] at h
    exact ⟨y, rfl, (Option.some.inj h).symm⟩
theorem q_forM {α : Type} {l : List α} {val : α → V} {a : Addr} {tl : TE} (h : Ev tl σ H (.ref a)) (hx : SqL K H a (l.map val)) (Pv : Nat → L2.St → Hp → Prop) (h0 : ∀ H1, Ex H H1 → Pv 0 σ H1) (hl : ∀ i σ' H', Pv i σ' H' → SqL K H' a (l.map val))
    (hs : ∀ i x σ' H', l[i]? = some x → Pv i σ' H' → g (val x) σ' H' fun σ2 H2 => tu { D with nx := Pv (i + 1), ct := Pv (i + 1), bk := tz D } σ2 H2) (hd : ∀ σ' H', Pv l.length σ' H' → tz D σ' H') : tSeq (tFor (iList K tl) g tu) tz D σ H :=
  q_forL h hx Pv h0 (fun i σ' H' _ p => hl i σ' H' p) (fun i x σ' H' hi p => by
    obtain ⟨y, hy, rfl⟩ := map_at hi
    exact hs i y σ' H' hy p) fun σ' H' p => hd σ' H' (by rw [List.length_map] at p; exact p)
theorem s_forM {α : Type} {l : List α} {val : α → V} {a : Addr} {tl : TE} (h : Ev tl σ H (.ref a)) (hx : SqL K H a (l.map val)) (Pv : Nat → L2.St → Hp → Prop) (h0 : ∀ H1, Ex H H1 → Pv 0 σ H1) (hl : ∀ i σ' H', Pv i σ' H' → SqL K H' a (l.map val))
    (hs : ∀ i x σ' H', l[i]? = some x → Pv i σ' H' → g (val x) σ' H' fun σ2 H2 => tu { D with nx := Pv (i + 1), ct := Pv (i + 1), bk := D.nx } σ2 H2) (hd : ∀ σ' H', Pv l.length σ' H' → D.nx σ' H') : tFor (iList K tl) g tu D σ H :=
  s_forL h hx Pv h0 (fun i σ' H' _ p => hl i σ' H' p) (fun i x σ' H' hi p => by
    obtain ⟨y, hy, rfl⟩ := map_at hi
    exact hs i y σ' H' hy p) fun σ' H' p => hd σ' H' (by rw [List.length_map] at p; exact p)
/-- a pair taken apart -/
theorem g_pair {p : Addr} {v1 v2 : V} {i j : Nat} {R : L2.St → Hp → Prop} (h : H p = some (.tup [v1, v2])) (k : R ((σ.set i (some v1)).set j (some v2)) H) : gTup K 2 (gCons (gName i) (gCons (gName j) gNil)) (.ref p) σ H R :=
  ⟨p, [v1, v2], rfl, st_of h, rfl, v1, [v2], rfl, v2, [], rfl, rfl, k⟩
/-- a statement, told by what is so behind it -/
theorem q_mid {M : L2.St → Hp → Prop} (hm : ∀ {D D' : Ends} {σ : L2.St} {H : Hp}, (∀ σ' H', D.nx σ' H' → D'.nx σ' H') → D.rt = D'.rt → D.bk = D'.bk → D.ct = D'.ct → tu D σ H → tu D' σ H) (h : tu { D with nx := M } σ H) (k : ∀ σ' H', M σ' H' → tz D σ' H') : tSeq tu tz D σ H :=
  hm (D := { D with nx := M }) (D' := { D with nx := tz D }) k rfl rfl rfl h
end
end Ds

/-! Printed by gen.py: the text by places, its scopes, what the top has written. -/
namespace Ds
open PySem PySem.Spec PyProof.Rows L2 Evl

def topS (i : Nat) : Stmt := PySem.Challenge.pw_dogshows_s01_answers.main.body.getD i (.Pass ⟨0, 0, 0, 0⟩)
abbrev s_Award_init : Stmt := inClass (topS 6) 0
abbrev N_Award_init : List Str := ["self", "kind", "day", "judge", "country"]
abbrev P_Award_init : List Str := ["self", "kind", "day", "judge", "country"]
theorem sc_Award_init : FnScope N_Award_init P_Award_init (defScope s_Award_init) := ⟨rfl, rfl, rfl, by decide +kernel, rfl, by decide +kernel, by decide +kernel⟩
abbrev s_Dog_init : Stmt := inClass (topS 7) 0
abbrev N_Dog_init : List Str := ["self", "number", "sex", "born", "worked"]
abbrev P_Dog_init : List Str := ["self", "number", "sex", "born", "worked"]
theorem sc_Dog_init : FnScope N_Dog_init P_Dog_init (defScope s_Dog_init) := ⟨rfl, rfl, rfl, by decide +kernel, rfl, by decide +kernel, by decide +kernel⟩
abbrev s_Dog_has_enough : Stmt := inClass (topS 7) 1
abbrev N_Dog_has_enough : List Str := ["self", "kind", "count", "judges", "countries", "days", "awards", "shown", "award"]
abbrev P_Dog_has_enough : List Str := ["self", "kind", "count", "judges", "countries", "days"]
theorem sc_Dog_has_enough : FnScope N_Dog_has_enough P_Dog_has_enough (defScope s_Dog_has_enough) := ⟨rfl, rfl, rfl, by decide +kernel, rfl, by decide +kernel, by decide +kernel⟩
abbrev s_Dog_is_champion : Stmt := inClass (topS 7) 2
abbrev N_Dog_is_champion : List Str := ["self"]
abbrev P_Dog_is_champion : List Str := ["self"]
theorem sc_Dog_is_champion : FnScope N_Dog_is_champion P_Dog_is_champion (defScope s_Dog_is_champion) := ⟨rfl, rfl, rfl, by decide +kernel, rfl, by decide +kernel, by decide +kernel⟩
abbrev s_Dog_is_young_champion : Stmt := inClass (topS 7) 3
abbrev N_Dog_is_young_champion : List Str := ["self"]
abbrev P_Dog_is_young_champion : List Str := ["self"]
theorem sc_Dog_is_young_champion : FnScope N_Dog_is_young_champion P_Dog_is_young_champion (defScope s_Dog_is_young_champion) := ⟨rfl, rfl, rfl, by decide +kernel, rfl, by decide +kernel, by decide +kernel⟩
abbrev s_Dog_is_old_champion : Stmt := inClass (topS 7) 4
abbrev N_Dog_is_old_champion : List Str := ["self"]
abbrev P_Dog_is_old_champion : List Str := ["self"]
theorem sc_Dog_is_old_champion : FnScope N_Dog_is_old_champion P_Dog_is_old_champion (defScope s_Dog_is_old_champion) := ⟨rfl, rfl, rfl, by decide +kernel, rfl, by decide +kernel, by decide +kernel⟩
abbrev s_Dog_is_international : Stmt := inClass (topS 7) 5
abbrev N_Dog_is_international : List Str := ["self"]
abbrev P_Dog_is_international : List Str := ["self"]
theorem sc_Dog_is_international : FnScope N_Dog_is_international P_Dog_is_international (defScope s_Dog_is_international) := ⟨rfl, rfl, rfl, by decide +kernel, rfl, by decide +kernel, by decide +kernel⟩
abbrev s_is_of_age : Stmt := topS 20
abbrev N_is_of_age : List Str := ["number", "age", "least", "most"]
abbrev P_is_of_age : List Str := ["number", "age"]
theorem sc_is_of_age : FnScope N_is_of_age P_is_of_age (defScope s_is_of_age) := ⟨rfl, rfl, rfl, by decide +kernel, rfl, by decide +kernel, by decide +kernel⟩
abbrev s_Show_init : Stmt := inClass (topS 21) 0
abbrev N_Show_init : List Str := ["self", "day", "judge", "country", "international"]
abbrev P_Show_init : List Str := ["self", "day", "judge", "country", "international"]
theorem sc_Show_init : FnScope N_Show_init P_Show_init (defScope s_Show_init) := ⟨rfl, rfl, rfl, by decide +kernel, rfl, by decide +kernel, by decide +kernel⟩
abbrev s_Show_class_of : Stmt := inClass (topS 21) 1
abbrev N_Show_class_of : List Str := ["self", "dog", "other", "number"]
abbrev P_Show_class_of : List Str := ["self", "dog"]
theorem sc_Show_class_of : FnScope N_Show_class_of P_Show_class_of (defScope s_Show_class_of) := ⟨rfl, rfl, rfl, by decide +kernel, rfl, by decide +kernel, by decide +kernel⟩
abbrev s_Show_grade_of : Stmt := inClass (topS 21) 2
abbrev N_Show_grade_of : List Str := ["self", "dog"]
abbrev P_Show_grade_of : List Str := ["self", "dog"]
theorem sc_Show_grade_of : FnScope N_Show_grade_of P_Show_grade_of (defScope s_Show_grade_of) := ⟨rfl, rfl, rfl, by decide +kernel, rfl, by decide +kernel, by decide +kernel⟩
abbrev s_Show_placed : Stmt := inClass (topS 21) 3
abbrev N_Show_placed : List Str := ["self", "number", "sex", "place", "row"]
abbrev P_Show_placed : List Str := ["self", "number", "sex", "place"]
theorem sc_Show_placed : FnScope N_Show_placed P_Show_placed (defScope s_Show_placed) := ⟨rfl, rfl, rfl, by decide +kernel, rfl, by decide +kernel, by decide +kernel⟩
abbrev s_Show_firsts : Stmt := inClass (topS 21) 4
abbrev N_Show_firsts : List Str := ["self", "sex", "out", "number"]
abbrev P_Show_firsts : List Str := ["self", "sex"]
theorem sc_Show_firsts : FnScope N_Show_firsts P_Show_firsts (defScope s_Show_firsts) := ⟨rfl, rfl, rfl, by decide +kernel, rfl, by decide +kernel, by decide +kernel⟩
abbrev s_Show_holder : Stmt := inClass (topS 21) 5
abbrev N_Show_holder : List Str := ["self", "kind", "sex", "dog", "other"]
abbrev P_Show_holder : List Str := ["self", "kind", "sex"]
theorem sc_Show_holder : FnScope N_Show_holder P_Show_holder (defScope s_Show_holder) := ⟨rfl, rfl, rfl, by decide +kernel, rfl, by decide +kernel, by decide +kernel⟩
abbrev s_Show_is_given : Stmt := inClass (topS 21) 6
abbrev N_Show_is_given : List Str := ["self", "kind", "dog", "other"]
abbrev P_Show_is_given : List Str := ["self", "kind"]
theorem sc_Show_is_given : FnScope N_Show_is_given P_Show_is_given (defScope s_Show_is_given) := ⟨rfl, rfl, rfl, by decide +kernel, rfl, by decide +kernel, by decide +kernel⟩
abbrev s_Show_may_have : Stmt := inClass (topS 21) 7
abbrev N_Show_may_have : List Str := ["self", "kind", "sex"]
abbrev P_Show_may_have : List Str := ["self", "kind", "sex"]
theorem sc_Show_may_have : FnScope N_Show_may_have P_Show_may_have (defScope s_Show_may_have) := ⟨rfl, rfl, rfl, by decide +kernel, rfl, by decide +kernel, by decide +kernel⟩
abbrev s_Show_next_ones : Stmt := inClass (topS 21) 8
abbrev N_Show_next_ones : List Str := ["self", "kind", "sex", "first", "out", "dog"]
abbrev P_Show_next_ones : List Str := ["self", "kind", "sex"]
theorem sc_Show_next_ones : FnScope N_Show_next_ones P_Show_next_ones (defScope s_Show_next_ones) := ⟨rfl, rfl, rfl, by decide +kernel, rfl, by decide +kernel, by decide +kernel⟩
abbrev s_Show_bests : Stmt := inClass (topS 21) 9
abbrev N_Show_bests : List Str := ["self", "sex", "out", "first"]
abbrev P_Show_bests : List Str := ["self", "sex"]
theorem sc_Show_bests : FnScope N_Show_bests P_Show_bests (defScope s_Show_bests) := ⟨rfl, rfl, rfl, by decide +kernel, rfl, by decide +kernel, by decide +kernel⟩
abbrev s_Show_counts_as : Stmt := inClass (topS 21) 10
abbrev N_Show_counts_as : List Str := ["self", "dog", "kind"]
abbrev P_Show_counts_as : List Str := ["self", "dog", "kind"]
theorem sc_Show_counts_as : FnScope N_Show_counts_as P_Show_counts_as (defScope s_Show_counts_as) := ⟨rfl, rfl, rfl, by decide +kernel, rfl, by decide +kernel, by decide +kernel⟩
abbrev s_Show_kept_awards : Stmt := inClass (topS 21) 11
abbrev N_Show_kept_awards : List Str := ["self", "out", "sex", "dog", "kind"]
abbrev P_Show_kept_awards : List Str := ["self"]
theorem sc_Show_kept_awards : FnScope N_Show_kept_awards P_Show_kept_awards (defScope s_Show_kept_awards) := ⟨rfl, rfl, rfl, by decide +kernel, rfl, by decide +kernel, by decide +kernel⟩
abbrev s_Refusal_init : Stmt := inClass (topS 26) 0
abbrev N_Refusal_init : List Str := ["self", "number"]
abbrev P_Refusal_init : List Str := ["self", "number"]
theorem sc_Refusal_init : FnScope N_Refusal_init P_Refusal_init (defScope s_Refusal_init) := ⟨rfl, rfl, rfl, by decide +kernel, rfl, by decide +kernel, by decide +kernel⟩
abbrev s_refuse_if : Stmt := topS 27
abbrev N_refuse_if : List Str := ["condition", "number"]
abbrev P_refuse_if : List Str := ["condition", "number"]
theorem sc_refuse_if : FnScope N_refuse_if P_refuse_if (defScope s_refuse_if) := ⟨rfl, rfl, rfl, by decide +kernel, rfl, by decide +kernel, by decide +kernel⟩
abbrev s_is_class : Stmt := topS 28
abbrev N_is_class : List Str := ["number"]
abbrev P_is_class : List Str := ["number"]
theorem sc_is_class : FnScope N_is_class P_is_class (defScope s_is_class) := ⟨rfl, rfl, rfl, by decide +kernel, rfl, by decide +kernel, by decide +kernel⟩
abbrev s_yes : Stmt := topS 29
abbrev N_yes : List Str := ["holds"]
abbrev P_yes : List Str := ["holds"]
theorem sc_yes : FnScope N_yes P_yes (defScope s_yes) := ⟨rfl, rfl, rfl, by decide +kernel, rfl, by decide +kernel, by decide +kernel⟩
abbrev s_Book_init : Stmt := inClass (topS 30) 0
abbrev N_Book_init : List Str := ["self"]
abbrev P_Book_init : List Str := ["self"]
theorem sc_Book_init : FnScope N_Book_init P_Book_init (defScope s_Book_init) := ⟨rfl, rfl, rfl, by decide +kernel, rfl, by decide +kernel, by decide +kernel⟩
abbrev s_Book_has_dog : Stmt := inClass (topS 30) 1
abbrev N_Book_has_dog : List Str := ["self", "number"]
abbrev P_Book_has_dog : List Str := ["self", "number"]
theorem sc_Book_has_dog : FnScope N_Book_has_dog P_Book_has_dog (defScope s_Book_has_dog) := ⟨rfl, rfl, rfl, by decide +kernel, rfl, by decide +kernel, by decide +kernel⟩
abbrev s_Book_show_on : Stmt := inClass (topS 30) 2
abbrev N_Book_show_on : List Str := ["self"]
abbrev P_Book_show_on : List Str := ["self"]
theorem sc_Book_show_on : FnScope N_Book_show_on P_Book_show_on (defScope s_Book_show_on) := ⟨rfl, rfl, rfl, by decide +kernel, rfl, by decide +kernel, by decide +kernel⟩
abbrev s_Book_add_dog : Stmt := inClass (topS 30) 3
abbrev N_Book_add_dog : List Str := ["self", "numbers", "sex", "born", "worked"]
abbrev P_Book_add_dog : List Str := ["self", "numbers"]
theorem sc_Book_add_dog : FnScope N_Book_add_dog P_Book_add_dog (defScope s_Book_add_dog) := ⟨rfl, rfl, rfl, by decide +kernel, rfl, by decide +kernel, by decide +kernel⟩
abbrev s_Book_begin_show : Stmt := inClass (topS 30) 4
abbrev N_Book_begin_show : List Str := ["self", "numbers", "wrong", "day", "judge", "country", "international"]
abbrev P_Book_begin_show : List Str := ["self", "numbers"]
theorem sc_Book_begin_show : FnScope N_Book_begin_show P_Book_begin_show (defScope s_Book_begin_show) := ⟨rfl, rfl, rfl, by decide +kernel, rfl, by decide +kernel, by decide +kernel⟩
abbrev s_Book_enter : Stmt := inClass (topS 30) 5
abbrev N_Book_enter : List Str := ["self", "number", "age_class", "show", "dog"]
abbrev P_Book_enter : List Str := ["self", "number", "age_class"]
theorem sc_Book_enter : FnScope N_Book_enter P_Book_enter (defScope s_Book_enter) := ⟨rfl, rfl, rfl, by decide +kernel, rfl, by decide +kernel, by decide +kernel⟩
abbrev s_Book_grade : Stmt := inClass (topS 30) 6
abbrev N_Book_grade : List Str := ["self", "number", "grade", "show"]
abbrev P_Book_grade : List Str := ["self", "number", "grade"]
theorem sc_Book_grade : FnScope N_Book_grade P_Book_grade (defScope s_Book_grade) := ⟨rfl, rfl, rfl, by decide +kernel, rfl, by decide +kernel, by decide +kernel⟩
abbrev s_Book_row : Stmt := inClass (topS 30) 7
abbrev N_Book_row : List Str := ["self", "age_class", "sex", "numbers", "wrong", "show", "dogs", "before", "dog", "grade", "number"]
abbrev P_Book_row : List Str := ["self", "age_class", "sex", "numbers"]
theorem sc_Book_row : FnScope N_Book_row P_Book_row (defScope s_Book_row) := ⟨rfl, rfl, rfl, by decide +kernel, rfl, by decide +kernel, by decide +kernel⟩
abbrev s_Book_award : Stmt := inClass (topS 30) 8
abbrev N_Book_award : List Str := ["self", "number", "kind", "show", "dog", "other"]
abbrev P_Book_award : List Str := ["self", "number", "kind"]
theorem sc_Book_award : FnScope N_Book_award P_Book_award (defScope s_Book_award) := ⟨rfl, rfl, rfl, by decide +kernel, rfl, by decide +kernel, by decide +kernel⟩
abbrev s_Book_close_show : Stmt := inClass (topS 30) 9
abbrev N_Book_close_show : List Str := ["self", "show", "awards", "out", "dog", "kind"]
abbrev P_Book_close_show : List Str := ["self"]
theorem sc_Book_close_show : FnScope N_Book_close_show P_Book_close_show (defScope s_Book_close_show) := ⟨rfl, rfl, rfl, by decide +kernel, rfl, by decide +kernel, by decide +kernel⟩
abbrev s_Book_may : Stmt := inClass (topS 30) 10
abbrev N_Book_may : List Str := ["self", "kind", "sex", "dogs", "dog"]
abbrev P_Book_may : List Str := ["self", "kind", "sex"]
theorem sc_Book_may : FnScope N_Book_may P_Book_may (defScope s_Book_may) := ⟨rfl, rfl, rfl, by decide +kernel, rfl, by decide +kernel, by decide +kernel⟩
abbrev s_Book_titles : Stmt := inClass (topS 30) 11
abbrev N_Book_titles : List Str := ["self", "number", "dog", "out"]
abbrev P_Book_titles : List Str := ["self", "number"]
theorem sc_Book_titles : FnScope N_Book_titles P_Book_titles (defScope s_Book_titles) := ⟨rfl, rfl, rfl, by decide +kernel, rfl, by decide +kernel, by decide +kernel⟩
abbrev s_Book_kept : Stmt := inClass (topS 30) 12
abbrev N_Book_kept : List Str := ["self", "number", "awards", "out", "award"]
abbrev P_Book_kept : List Str := ["self", "number"]
theorem sc_Book_kept : FnScope N_Book_kept P_Book_kept (defScope s_Book_kept) := ⟨rfl, rfl, rfl, by decide +kernel, rfl, by decide +kernel, by decide +kernel⟩
abbrev s_Book_now : Stmt := inClass (topS 30) 13
abbrev N_Book_now : List Str := ["self", "show", "out", "dog", "age_class"]
abbrev P_Book_now : List Str := ["self"]
theorem sc_Book_now : FnScope N_Book_now P_Book_now (defScope s_Book_now) := ⟨rfl, rfl, rfl, by decide +kernel, rfl, by decide +kernel, by decide +kernel⟩
abbrev s_answer : Stmt := topS 31
abbrev N_answer : List Str := ["book", "number", "numbers", "row"]
abbrev P_answer : List Str := ["book", "number", "numbers", "row"]
theorem sc_answer : FnScope N_answer P_answer (defScope s_answer) := ⟨rfl, rfl, rfl, by decide +kernel, rfl, by decide +kernel, by decide +kernel⟩
abbrev s_read_call : Stmt := topS 33
abbrev N_read_call : List Str := ["calls", "at", "number", "numbers", "row", "count", "rows", "size"]
abbrev P_read_call : List Str := ["calls", "at"]
theorem sc_read_call : FnScope N_read_call P_read_call (defScope s_read_call) := ⟨rfl, rfl, rfl, by decide +kernel, rfl, by decide +kernel, by decide +kernel⟩
abbrev s_answers : Stmt := topS 34
abbrev N_answers : List Str := ["calls", "book", "out", "at", "refusal", "number", "numbers", "row", "found"]
abbrev P_answers : List Str := ["calls"]
theorem sc_answers : FnScope N_answers P_answers (defScope s_answers) := ⟨rfl, rfl, rfl, by decide +kernel, rfl, by decide +kernel, by decide +kernel⟩
/-- the addresses of what the top has made -/
structure Cs where
  C_Award : Addr
  C_Dog : Addr
  C_Show : Addr
  C_Refusal : Addr
  C_Book : Addr
  f_Award_init : Addr
  f_Dog_init : Addr
  f_Dog_has_enough : Addr
  f_Dog_is_champion : Addr
  f_Dog_is_young_champion : Addr
  f_Dog_is_old_champion : Addr
  f_Dog_is_international : Addr
  f_is_of_age : Addr
  f_Show_init : Addr
  f_Show_class_of : Addr
  f_Show_grade_of : Addr
  f_Show_placed : Addr
  f_Show_firsts : Addr
  f_Show_holder : Addr
  f_Show_is_given : Addr
  f_Show_may_have : Addr
  f_Show_next_ones : Addr
  f_Show_bests : Addr
  f_Show_counts_as : Addr
  f_Show_kept_awards : Addr
  f_Refusal_init : Addr
  f_refuse_if : Addr
  f_is_class : Addr
  f_yes : Addr
  f_Book_init : Addr
  f_Book_has_dog : Addr
  f_Book_show_on : Addr
  f_Book_add_dog : Addr
  f_Book_begin_show : Addr
  f_Book_enter : Addr
  f_Book_grade : Addr
  f_Book_row : Addr
  f_Book_award : Addr
  f_Book_close_show : Addr
  f_Book_may : Addr
  f_Book_titles : Addr
  f_Book_kept : Addr
  f_Book_now : Addr
  f_answer : Addr
  f_read_call : Addr
  f_answers : Addr
  a_GROWN : Addr
  a_AGES : Addr
  a_AWARDS : Addr
  a_FORMS : Addr
/-- a def of the text at its place, and how its arguments bind -/
def Def (K : PySem.W.Frag) (x qual : Str) (st : Stmt) (f : Addr) (ps : List Str) : Prop := ∃ fd, Fun K x qual st f fd ∧ Binds K fd ps []
/-- what the top has written -/
structure Txt (K : PySem.W.Frag) (mg : Str → Option Value) (c : Cs) : Prop where
  cl_Award : Cls K c.C_Award
  mk_Award : Mk K c.C_Award c.f_Award_init
  g_Award : mg "Award" = some (.ref c.C_Award)
  n_Award_kind : NoAttr K c.C_Award "kind"
  n_Award_day : NoAttr K c.C_Award "day"
  n_Award_judge : NoAttr K c.C_Award "judge"
  n_Award_country : NoAttr K c.C_Award "country"
  cl_Dog : Cls K c.C_Dog
  mk_Dog : Mk K c.C_Dog c.f_Dog_init
  g_Dog : mg "Dog" = some (.ref c.C_Dog)
  n_Dog_number : NoAttr K c.C_Dog "number"
  n_Dog_sex : NoAttr K c.C_Dog "sex"
  n_Dog_born : NoAttr K c.C_Dog "born"
  n_Dog_worked : NoAttr K c.C_Dog "worked"
  n_Dog_awards : NoAttr K c.C_Dog "awards"
  cl_Show : Cls K c.C_Show
  mk_Show : Mk K c.C_Show c.f_Show_init
  g_Show : mg "Show" = some (.ref c.C_Show)
  n_Show_day : NoAttr K c.C_Show "day"
  n_Show_judge : NoAttr K c.C_Show "judge"
  n_Show_country : NoAttr K c.C_Show "country"
  n_Show_international : NoAttr K c.C_Show "international"
  n_Show_entered : NoAttr K c.C_Show "entered"
  n_Show_grades : NoAttr K c.C_Show "grades"
  n_Show_rows : NoAttr K c.C_Show "rows"
  n_Show_given : NoAttr K c.C_Show "given"
  cl_Book : Cls K c.C_Book
  mk_Book : Mk K c.C_Book c.f_Book_init
  g_Book : mg "Book" = some (.ref c.C_Book)
  n_Book_dogs : NoAttr K c.C_Book "dogs"
  n_Book_show : NoAttr K c.C_Book "show"
  n_Book_last_day : NoAttr K c.C_Book "last_day"
  F_Award_init : Def K "__init__" "Award.__init__" s_Award_init c.f_Award_init P_Award_init
  F_Dog_init : Def K "__init__" "Dog.__init__" s_Dog_init c.f_Dog_init P_Dog_init
  m_Dog_has_enough : Meth K c.C_Dog "has_enough" c.f_Dog_has_enough
  F_Dog_has_enough : Def K "has_enough" "Dog.has_enough" s_Dog_has_enough c.f_Dog_has_enough P_Dog_has_enough
  m_Dog_is_champion : Meth K c.C_Dog "is_champion" c.f_Dog_is_champion
  F_Dog_is_champion : Def K "is_champion" "Dog.is_champion" s_Dog_is_champion c.f_Dog_is_champion P_Dog_is_champion
  m_Dog_is_young_champion : Meth K c.C_Dog "is_young_champion" c.f_Dog_is_young_champion
  F_Dog_is_young_champion : Def K "is_young_champion" "Dog.is_young_champion" s_Dog_is_young_champion c.f_Dog_is_young_champion P_Dog_is_young_champion
  m_Dog_is_old_champion : Meth K c.C_Dog "is_old_champion" c.f_Dog_is_old_champion
  F_Dog_is_old_champion : Def K "is_old_champion" "Dog.is_old_champion" s_Dog_is_old_champion c.f_Dog_is_old_champion P_Dog_is_old_champion
  m_Dog_is_international : Meth K c.C_Dog "is_international" c.f_Dog_is_international
  F_Dog_is_international : Def K "is_international" "Dog.is_international" s_Dog_is_international c.f_Dog_is_international P_Dog_is_international
  g_is_of_age : mg "is_of_age" = some (.ref c.f_is_of_age)
  k_is_of_age : PySem.W.keepIn K (.ref c.f_is_of_age) = true
  F_is_of_age : Def K "is_of_age" "is_of_age" s_is_of_age c.f_is_of_age P_is_of_age
  F_Show_init : Def K "__init__" "Show.__init__" s_Show_init c.f_Show_init P_Show_init
  m_Show_class_of : Meth K c.C_Show "class_of" c.f_Show_class_of
  F_Show_class_of : Def K "class_of" "Show.class_of" s_Show_class_of c.f_Show_class_of P_Show_class_of
  m_Show_grade_of : Meth K c.C_Show "grade_of" c.f_Show_grade_of
  F_Show_grade_of : Def K "grade_of" "Show.grade_of" s_Show_grade_of c.f_Show_grade_of P_Show_grade_of
  m_Show_placed : Meth K c.C_Show "placed" c.f_Show_placed
  F_Show_placed : Def K "placed" "Show.placed" s_Show_placed c.f_Show_placed P_Show_placed
  m_Show_firsts : Meth K c.C_Show "firsts" c.f_Show_firsts
  F_Show_firsts : Def K "firsts" "Show.firsts" s_Show_firsts c.f_Show_firsts P_Show_firsts
  m_Show_holder : Meth K c.C_Show "holder" c.f_Show_holder
  F_Show_holder : Def K "holder" "Show.holder" s_Show_holder c.f_Show_holder P_Show_holder
  m_Show_is_given : Meth K c.C_Show "is_given" c.f_Show_is_given
  F_Show_is_given : Def K "is_given" "Show.is_given" s_Show_is_given c.f_Show_is_given P_Show_is_given
  m_Show_may_have : Meth K c.C_Show "may_have" c.f_Show_may_have
  F_Show_may_have : Def K "may_have" "Show.may_have" s_Show_may_have c.f_Show_may_have P_Show_may_have
  m_Show_next_ones : Meth K c.C_Show "next_ones" c.f_Show_next_ones
  F_Show_next_ones : Def K "next_ones" "Show.next_ones" s_Show_next_ones c.f_Show_next_ones P_Show_next_ones
  m_Show_bests : Meth K c.C_Show "bests" c.f_Show_bests
  F_Show_bests : Def K "bests" "Show.bests" s_Show_bests c.f_Show_bests P_Show_bests
  m_Show_counts_as : Meth K c.C_Show "counts_as" c.f_Show_counts_as
  F_Show_counts_as : Def K "counts_as" "Show.counts_as" s_Show_counts_as c.f_Show_counts_as P_Show_counts_as
  m_Show_kept_awards : Meth K c.C_Show "kept_awards" c.f_Show_kept_awards
  F_Show_kept_awards : Def K "kept_awards" "Show.kept_awards" s_Show_kept_awards c.f_Show_kept_awards P_Show_kept_awards
  F_Refusal_init : Def K "__init__" "Refusal.__init__" s_Refusal_init c.f_Refusal_init P_Refusal_init
  g_refuse_if : mg "refuse_if" = some (.ref c.f_refuse_if)
  k_refuse_if : PySem.W.keepIn K (.ref c.f_refuse_if) = true
  F_refuse_if : Def K "refuse_if" "refuse_if" s_refuse_if c.f_refuse_if P_refuse_if
  g_is_class : mg "is_class" = some (.ref c.f_is_class)
  k_is_class : PySem.W.keepIn K (.ref c.f_is_class) = true
  F_is_class : Def K "is_class" "is_class" s_is_class c.f_is_class P_is_class
  g_yes : mg "yes" = some (.ref c.f_yes)
  k_yes : PySem.W.keepIn K (.ref c.f_yes) = true
  F_yes : Def K "yes" "yes" s_yes c.f_yes P_yes
  F_Book_init : Def K "__init__" "Book.__init__" s_Book_init c.f_Book_init P_Book_init
  m_Book_has_dog : Meth K c.C_Book "has_dog" c.f_Book_has_dog
  F_Book_has_dog : Def K "has_dog" "Book.has_dog" s_Book_has_dog c.f_Book_has_dog P_Book_has_dog
  m_Book_show_on : Meth K c.C_Book "show_on" c.f_Book_show_on
  F_Book_show_on : Def K "show_on" "Book.show_on" s_Book_show_on c.f_Book_show_on P_Book_show_on
  m_Book_add_dog : Meth K c.C_Book "add_dog" c.f_Book_add_dog
  F_Book_add_dog : Def K "add_dog" "Book.add_dog" s_Book_add_dog c.f_Book_add_dog P_Book_add_dog
  m_Book_begin_show : Meth K c.C_Book "begin_show" c.f_Book_begin_show
  F_Book_begin_show : Def K "begin_show" "Book.begin_show" s_Book_begin_show c.f_Book_begin_show P_Book_begin_show
  m_Book_enter : Meth K c.C_Book "enter" c.f_Book_enter
  F_Book_enter : Def K "enter" "Book.enter" s_Book_enter c.f_Book_enter P_Book_enter
  m_Book_grade : Meth K c.C_Book "grade" c.f_Book_grade
  F_Book_grade : Def K "grade" "Book.grade" s_Book_grade c.f_Book_grade P_Book_grade
  m_Book_row : Meth K c.C_Book "row" c.f_Book_row
  F_Book_row : Def K "row" "Book.row" s_Book_row c.f_Book_row P_Book_row
  m_Book_award : Meth K c.C_Book "award" c.f_Book_award
  F_Book_award : Def K "award" "Book.award" s_Book_award c.f_Book_award P_Book_award
  m_Book_close_show : Meth K c.C_Book "close_show" c.f_Book_close_show
  F_Book_close_show : Def K "close_show" "Book.close_show" s_Book_close_show c.f_Book_close_show P_Book_close_show
  m_Book_may : Meth K c.C_Book "may" c.f_Book_may
  F_Book_may : Def K "may" "Book.may" s_Book_may c.f_Book_may P_Book_may
  m_Book_titles : Meth K c.C_Book "titles" c.f_Book_titles
  F_Book_titles : Def K "titles" "Book.titles" s_Book_titles c.f_Book_titles P_Book_titles
  m_Book_kept : Meth K c.C_Book "kept" c.f_Book_kept
  F_Book_kept : Def K "kept" "Book.kept" s_Book_kept c.f_Book_kept P_Book_kept
  m_Book_now : Meth K c.C_Book "now" c.f_Book_now
  F_Book_now : Def K "now" "Book.now" s_Book_now c.f_Book_now P_Book_now
  g_answer : mg "answer" = some (.ref c.f_answer)
  k_answer : PySem.W.keepIn K (.ref c.f_answer) = true
  F_answer : Def K "answer" "answer" s_answer c.f_answer P_answer
  g_read_call : mg "read_call" = some (.ref c.f_read_call)
  k_read_call : PySem.W.keepIn K (.ref c.f_read_call) = true
  F_read_call : Def K "read_call" "read_call" s_read_call c.f_read_call P_read_call
  g_answers : mg "answers" = some (.ref c.f_answers)
  k_answers : PySem.W.keepIn K (.ref c.f_answers) = true
  F_answers : Def K "answers" "answers" s_answers c.f_answers P_answers
  v_CERTIFICATE : ∃ t, mg "CERTIFICATE" = some (.int 0 t)
  v_YOUNG : ∃ t, mg "YOUNG" = some (.int 2 t)
  v_OLD : ∃ t, mg "OLD" = some (.int 3 t)
  v_INTERNATIONAL : ∃ t, mg "INTERNATIONAL" = some (.int 4 t)
  v_LONG : ∃ t, mg "LONG" = some (.int 366 t)
  v_YOUNG_CLASS : ∃ t, mg "YOUNG_CLASS" = some (.int 1 t)
  v_WORKING : ∃ t, mg "WORKING" = some (.int 4 t)
  v_CHAMPIONS : ∃ t, mg "CHAMPIONS" = some (.int 5 t)
  v_OLD_CLASS : ∃ t, mg "OLD_CLASS" = some (.int 6 t)
  v_EXCELLENT : ∃ t, mg "EXCELLENT" = some (.int 3 t)
  v_NEXT : ∃ t, mg "NEXT" = some (.int 1 t)
  v_NEXT_INTERNATIONAL : ∃ t, mg "NEXT_INTERNATIONAL" = some (.int 5 t)
  v_BEST : ∃ t, mg "BEST" = some (.int 6 t)
  v_OTHER_BEST : ∃ t, mg "OTHER_BEST" = some (.int 7 t)
  v_MOST_DOGS : ∃ t, mg "MOST_DOGS" = some (.int 60 t)
  v_MOST_ROW : ∃ t, mg "MOST_ROW" = some (.int 4 t)
  g_GROWN : mg "GROWN" = some (.ref c.a_GROWN)
  q_GROWN : ∀ H, SqT K H c.a_GROWN [.int 2, .int 3, .int 4, .int 5]
  g_AGES : mg "AGES" = some (.ref c.a_AGES)
  q_AGES : ∃ l : List Addr, l.length = 7 ∧ (∀ H, SqT K H c.a_AGES (l.map V.ref)) ∧ ∀ H (i : Nat) (p : Addr), l[i]? = some p → ∃ x y, ([(183, 273), (274, 548), (457, 730), (457, 0), (457, 0), (457, 0), (2922, 0)] : List (Int × Int))[i]? = some (x, y) ∧ SqT K H p [.int x, .int y]
  g_AWARDS : mg "AWARDS" = some (.ref c.a_AWARDS)
  q_AWARDS : ∀ H, SqT K H c.a_AWARDS [.int 0, .int 1, .int 4, .int 5, .int 6, .int 7]
  g_FORMS : mg "FORMS" = some (.ref c.a_FORMS)
  q_FORMS : ∃ l : List Addr, l.length = 12 ∧ (∀ H, SqT K H c.a_FORMS (l.map V.ref)) ∧ ∀ H (i : Nat) (p : Addr), l[i]? = some p → ∃ x y, ([(0, 0), (3, 0), (4, 0), (2, 0), (2, 0), (2, 1), (2, 0), (0, 0), (2, 0), (1, 0), (1, 0), (0, 0)] : List (Int × Int))[i]? = some (x, y) ∧ SqT K H p [.int x, .int y]
  b_len : mg "len" = none
  b_max : mg "max" = none
  b_min : mg "min" = none
  b_set : mg "set" = none
  b_any : mg "any" = none
  b_all : mg "all" = none
  b_ValueError : mg "ValueError" = none
  g_Refusal : mg "Refusal" = some (.ref c.C_Refusal)
  oex : OexC K c.C_Refusal
  iC : PySem.W.findIn K (.ref c.C_Refusal) "__init__" = some (some (.ref c.f_Refusal_init))
  tI : PySem.W.typeIn K (.ref c.f_Refusal_init) = some (.type "function")
  nNum : PySem.W.findIn K (.ref c.C_Refusal) "number" = some none
  xf : XfC K c.C_Refusal
  vV : PySem.W.findCls K (.type "ValueError") (.type "type") "__init__" = some (.val (.builtin "ValueError.__init__"))
  te : PySem.W.exmOne K (.ref c.C_Refusal) (.ref c.C_Refusal) = some true
end Ds

/-! How a book lies in the heap; what each def promises. -/
namespace Ds
open PySem PySem.Spec PyProof.Rows L2 Evl

/-! ### fields by name -/
theorem lk_here {k : Str} {v : V} {r : List (Str × V)} : List.lookup k ((k, v) :: r) = some v := by
  have e : (k == k) = true := beq_self_eq_true k
  simp only [List.lookup, e]
theorem lk_past {k g : Str} {v : V} {r : List (Str × V)} (h : (k == g) = false) : List.lookup k ((g, v) :: r) = List.lookup k r := by
  simp only [List.lookup, h]
theorem put_here {f : Str} {v x : V} {r : List (Str × V)} : putF f v ((f, x) :: r) = (f, v) :: r := if_pos rfl
theorem put_past {f g : Str} {v x : V} {r : List (Str × V)} (h : ¬ g = f) : putF f v ((g, x) :: r) = (g, x) :: putF f v r := if_neg h

/-! ### the objects -/
def awF (a : Kg73.Award) : List (Str × V) := [("kind", .int (a.kind : Nat)), ("day", .int (a.day : Nat)), ("judge", .int (a.judge : Nat)), ("country", .int (a.country : Nat))]
def dogF (i : Nat) (d : Kg73.Dog) (aw : Addr) : List (Str × V) := [("number", .int i), ("sex", .int (d.sex : Nat)), ("born", .int (d.born : Nat)), ("worked", .bl d.worked), ("awards", .ref aw)]
def showF (w : Kg73.Show) (le dg dr lg : Addr) : List (Str × V) :=
  [("day", .int (w.day : Nat)), ("judge", .int (w.judge : Nat)), ("country", .int (w.country : Nat)), ("international", .bl w.wide), ("entered", .ref le), ("grades", .ref dg), ("rows", .ref dr), ("given", .ref lg)]
def bookF (ld : Addr) (sh : V) (last : Int) : List (Str × V) := [("dogs", .ref ld), ("show", sh), ("last_day", .int last)]

/-- where a dog lies: the instance, its list of awards, these with what each says -/
structure GDog where
  a : Addr
  aw : Addr
  ks : List (Addr × Kg73.Award)
/-- where a show lies: the instance, its lists and dicts, what is in them -/
structure GShow where
  a : Addr
  le : Addr
  dg : Addr
  dr : Addr
  lg : Addr
  es : List (Addr × Kg73.Entry)
  gk : List (Key × V)
  rs : List (Addr × Kg73.Row)
  gs : List (Addr × Kg73.Award)
structure GBook where
  b : Addr
  ld : Addr
  ds : List GDog
  sh : Option GShow
def GBook.at (g : GBook) (i : Nat) : Addr := (g.ds.map GDog.a).getD i 0
def keptOf (l : List Kg73.Award) (i : Nat) : List Kg73.Award := l.filter fun a => a.dog == i

structure DogAt (c : Cs) (H : Hp) (i : Nat) (d : Kg73.Dog) (ks : List Kg73.Award) (g : GDog) : Prop where
  ins : ∃ dx, H g.a = some (.ins c.C_Dog dx (dogF i d g.aw))
  aws : H g.aw = some (.lst (g.ks.map fun p => V.ref p.1))
  each : ∀ p ∈ g.ks, ∃ dx, H p.1 = some (.ins c.C_Award dx (awF p.2))
  same : g.ks.map (·.2) = ks
def rowK (rs : List (Addr × Kg73.Row)) : List (List Key × V) := rs.map fun p => ([Sum.inl (p.2.class_ : Int), Sum.inl (p.2.sex : Int)], V.ref p.1)
structure ShowAt (c : Cs) (H : Hp) (da : Nat → Addr) (n : Nat) (w : Kg73.Show) (g : GShow) : Prop where
  ins : ∃ dx, H g.a = some (.ins c.C_Show dx (showF w g.le g.dg g.dr g.lg))
  le : H g.le = some (.lst (g.es.map fun p => V.ref p.1))
  es : ∀ p ∈ g.es, H p.1 = some (.tup [.ref (da p.2.dog), .int (p.2.class_ : Nat)])
  esE : g.es.map (fun p => (p.2.dog, p.2.class_)) = w.entries.map (fun e => (e.dog, e.class_))
  dg : H g.dg = some (.dK g.gk)
  gk : ∀ i : Nat, (valV g.gk (Sum.inl (i : Int))).getD (.int 0) = .int (w.grade i : Nat)
  gl : g.gk.length ≤ n
  dr : H g.dr = some (.dT (rowK g.rs))
  rs : ∀ p ∈ g.rs, H p.1 = some (.lst (p.2.dogs.map fun i => V.ref (da i)))
  rsE : g.rs.map (·.2) = w.rows
  lg : H g.lg = some (.lst (g.gs.map fun p => V.ref p.1))
  gs : ∀ p ∈ g.gs, H p.1 = some (.tup [.ref (da p.2.dog), .int (p.2.kind : Nat)])
  gsE : g.gs.map (·.2) = w.awards
/-- what a call may write -/
def shFoot : Option GShow → List Addr
  | none => []
  | some x => [x.le, x.dg, x.dr, x.lg]
def GBook.foot (g : GBook) : List Addr := g.b :: g.ld :: (shFoot g.sh ++ g.ds.map GDog.aw)
def shV : Option GShow → V
  | none => .non
  | some x => .ref x.a
structure BookAt (c : Cs) (H : Hp) (n : Nat) (s : Kg73.State) (g : GBook) : Prop where
  ins : ∃ dx, H g.b = some (.ins c.C_Book dx (bookF g.ld (shV g.sh) (s.last : Nat)))
  ld : H g.ld = some (.lst (g.ds.map fun d => V.ref d.a))
  dn : g.ds.length = s.dogs.length
  ds : ∀ i d x, s.dogs[i]? = some d → g.ds[i]? = some x → DogAt c H i d (keptOf s.kept i) x
  no : s.show_ = none → g.sh = none
  on : ∀ w, s.show_ = some w → ∃ x, g.sh = some x ∧ ShowAt c H g.at n w x
  nd : g.foot.Nodup
  rr : ∀ x, g.sh = some x → ∀ p ∈ x.rs, p.1 ∉ g.foot

/-! ### they stand while what is known stands -/
theorem DogAt.mono {c : Cs} {H H' : Hp} {i : Nat} {d : Kg73.Dog} {ks : List Kg73.Award} {g : GDog} (h : DogAt c H i d ks g) (e : Ex H H') : DogAt c H' i d ks g :=
  ⟨let ⟨dx, q⟩ := h.ins; ⟨dx, e _ _ q⟩, e _ _ h.aws, fun p hp => let ⟨dx, q⟩ := h.each p hp; ⟨dx, e _ _ q⟩, h.same⟩
theorem ShowAt.mono {c : Cs} {H H' : Hp} {da : Nat → Addr} {n : Nat} {w : Kg73.Show} {g : GShow} (h : ShowAt c H da n w g) (e : Ex H H') : ShowAt c H' da n w g :=
  ⟨let ⟨dx, q⟩ := h.ins; ⟨dx, e _ _ q⟩, e _ _ h.le, fun p hp => e _ _ (h.es p hp), h.esE, e _ _ h.dg, h.gk, h.gl, e _ _ h.dr, fun p hp => e _ _ (h.rs p hp), h.rsE, e _ _ h.lg, fun p hp => e _ _ (h.gs p hp), h.gsE⟩
theorem ShowAt.more {c : Cs} {H : Hp} {da : Nat → Addr} {n n' : Nat} {w : Kg73.Show} {g : GShow} (h : ShowAt c H da n w g) (l : n ≤ n') : ShowAt c H da n' w g :=
  ⟨h.ins, h.le, h.es, h.esE, h.dg, h.gk, Nat.le_trans h.gl l, h.dr, h.rs, h.rsE, h.lg, h.gs, h.gsE⟩
theorem BookAt.mono {c : Cs} {H H' : Hp} {n : Nat} {s : Kg73.State} {g : GBook} (h : BookAt c H n s g) (e : Ex H H') : BookAt c H' n s g :=
  ⟨let ⟨dx, q⟩ := h.ins; ⟨dx, e _ _ q⟩, e _ _ h.ld, h.dn, fun i d x h1 h2 => (h.ds i d x h1 h2).mono e, h.no, fun w hw => let ⟨x, h1, h2⟩ := h.on w hw; ⟨x, h1, h2.mono e⟩, h.nd, h.rr⟩
theorem BookAt.more {c : Cs} {H : Hp} {n n' : Nat} {s : Kg73.State} {g : GBook} (h : BookAt c H n s g) (l : n ≤ n') : BookAt c H n' s g :=
  ⟨h.ins, h.ld, h.dn, h.ds, h.no, fun w hw => let ⟨x, h1, h2⟩ := h.on w hw; ⟨x, h1, h2.more l⟩, h.nd, h.rr⟩
/-- a show that is on -/
structure Vw (c : Cs) (H : Hp) (n : Nat) (s : Kg73.State) (g : GBook) (w : Kg73.Show) (x : GShow) : Prop where
  bk : BookAt c H n s g
  gd : Good s n
  n250 : n ≤ 250
  sw : s.show_ = some w
  gx : g.sh = some x
  sa : ShowAt c H g.at n w x
theorem Vw.mono {c : Cs} {H H' : Hp} {n : Nat} {s : Kg73.State} {g : GBook} {w : Kg73.Show} {x : GShow} (v : Vw c H n s g w x) (e : Ex H H') : Vw c H' n s g w x :=
  ⟨v.bk.mono e, v.gd, v.n250, v.sw, v.gx, v.sa.mono e⟩
theorem Vw.gw {c : Cs} {H : Hp} {n : Nat} {s : Kg73.State} {g : GBook} {w : Kg73.Show} {x : GShow} (v : Vw c H n s g w x) : GoodW s w := v.gd.sh w v.sw

/-! ### promises: dogs -/
def refs (g : GBook) (l : List Nat) : List V := l.map fun i => V.ref (g.at i)
def nats (l : List Nat) : List V := l.map fun i : Nat => V.int i
def sp_Award_init (K : PySem.W.Frag) (c : Cs) : Sp := fun vs H Q _ => ∃ (p dx : Addr) (k d j co : Int), vs = [.ref p, .int k, .int d, .int j, .int co] ∧ H p = some (.ins c.C_Award dx []) ∧
  Q .non (upd H p (.ins c.C_Award dx [("kind", .int k), ("day", .int d), ("judge", .int j), ("country", .int co)]))
def sp_Dog_init (K : PySem.W.Frag) (c : Cs) : Sp := fun vs H Q _ => ∃ (p dx : Addr) (i x b : Int) (w : Bool), vs = [.ref p, .int i, .int x, .int b, .bl w] ∧ H p = some (.ins c.C_Dog dx []) ∧
  ∀ l H', H l = none → l ≠ p → (∀ q o, H q = some o → q ≠ p → H' q = some o) → H' l = some (.lst []) → H' p = some (.ins c.C_Dog dx [("number", .int i), ("sex", .int x), ("born", .int b), ("worked", .bl w), ("awards", .ref l)]) → Q .non H'
def sp_Dog_has_enough (K : PySem.W.Frag) (c : Cs) : Sp := spV fun vs H z => ∃ i d ks g kind n j co days, DogAt c H i d ks g ∧ ks.length ≤ 4000 ∧ 1 ≤ n ∧ vs = [.ref g.a, .int (kind : Nat), .int (n : Nat), .int (j : Nat), .int (co : Nat), .int (days : Nat)] ∧
  z = .bl (Kg73.enough (ks.filter fun a => a.kind == kind) n j co days)
def sp_title (c : Cs) (kind n j co days : Nat) : Sp := spV fun vs H z => ∃ i d ks g, DogAt c H i d ks g ∧ ks.length ≤ 4000 ∧ vs = [.ref g.a] ∧ z = .bl (Kg73.enough (ks.filter fun a => a.kind == kind) n j co days)
def sp_Dog_is_champion (K : PySem.W.Frag) (c : Cs) : Sp := sp_title c 0 3 3 1 366
def sp_Dog_is_young_champion (K : PySem.W.Frag) (c : Cs) : Sp := sp_title c 2 3 2 1 0
def sp_Dog_is_old_champion (K : PySem.W.Frag) (c : Cs) : Sp := sp_title c 3 3 2 1 0
def sp_Dog_is_international (K : PySem.W.Frag) (c : Cs) : Sp := spV fun vs H z => ∃ i d ks g, DogAt c H i d ks g ∧ ks.length ≤ 4000 ∧ vs = [.ref g.a] ∧
  z = .bl (Kg73.enough (ks.filter fun a => a.kind == 4) 4 3 3 366 || (d.worked && Kg73.enough (ks.filter fun a => a.kind == 4) 2 2 2 366))

/-! ### shows -/
def sp_is_of_age (K : PySem.W.Frag) (c : Cs) : Sp := spV fun vs _ z => ∃ k age : Nat, k ≤ 6 ∧ vs = [.int k, .int age] ∧ z = .bl (Kg73.ageOk k age)
def sp_Show_init (K : PySem.W.Frag) (c : Cs) : Sp := fun vs H Q _ => ∃ (p dx : Addr) (d j co : Int) (w : Bool), vs = [.ref p, .int d, .int j, .int co, .bl w] ∧ H p = some (.ins c.C_Show dx []) ∧
  ∀ le dg dr lg H', H le = none → H dg = none → H dr = none → H lg = none → [le, dg, dr, lg].Nodup → p ∉ [le, dg, dr, lg] → (∀ q o, H q = some o → q ≠ p → H' q = some o) →
    H' le = some (.lst []) → H' dg = some (.dK []) → H' dr = some (.dT []) → H' lg = some (.lst []) →
    H' p = some (.ins c.C_Show dx [("day", .int d), ("judge", .int j), ("country", .int co), ("international", .bl w), ("entered", .ref le), ("grades", .ref dg), ("rows", .ref dr), ("given", .ref lg)]) → Q .non H'
def clsOf (w : Kg73.Show) (i : Nat) : Int := match w.entry i with
  | some e => (e.class_ : Nat)
  | none => -1
def sp_Show_class_of (K : PySem.W.Frag) (c : Cs) : Sp := spV fun vs H z => ∃ n s g w x i, Vw c H n s g w x ∧ i < s.dogs.length ∧ vs = [.ref x.a, .ref (g.at i)] ∧ z = .int (clsOf w i)
def sp_Show_grade_of (K : PySem.W.Frag) (c : Cs) : Sp := spV fun vs H z => ∃ n s g w x i, Vw c H n s g w x ∧ i < s.dogs.length ∧ vs = [.ref x.a, .ref (g.at i)] ∧ z = .int (w.grade i : Nat)
def sp_Show_placed (K : PySem.W.Frag) (c : Cs) : Sp := spL fun vs H xs => ∃ n s g w x k sx p, Vw c H n s g w x ∧ vs = [.ref x.a, .int (k : Nat), .int (sx : Nat), .int (p : Nat)] ∧ xs = refs g (placed w k sx p)
def sp_Show_firsts (K : PySem.W.Frag) (c : Cs) : Sp := spL fun vs H xs => ∃ n s g w x sx, Vw c H n s g w x ∧ vs = [.ref x.a, .int (sx : Nat)] ∧ xs = refs g (w.firsts sx)
def holdV (g : GBook) : Option Nat → V
  | none => .non
  | some i => .ref (g.at i)
def sp_Show_holder (K : PySem.W.Frag) (c : Cs) : Sp := spV fun vs H z => ∃ n s g w x k sx, Vw c H n s g w x ∧ vs = [.ref x.a, .int (k : Nat), .int (sx : Nat)] ∧ z = holdV g (w.holder s k sx)
def sp_Show_is_given (K : PySem.W.Frag) (c : Cs) : Sp := spV fun vs H z => ∃ n s g w x k, Vw c H n s g w x ∧ vs = [.ref x.a, .int (k : Nat)] ∧ z = .bl (w.awards.any fun a => a.kind == k)
def sp_Show_may_have (K : PySem.W.Frag) (c : Cs) : Sp := spL fun vs H xs => ∃ n s g w x k sx, Vw c H n s g w x ∧ k ≤ 7 ∧ sx ≤ 1 ∧ vs = [.ref x.a, .int (k : Nat), .int (sx : Nat)] ∧ xs = refs g (w.may s k sx)
def sp_Show_next_ones (K : PySem.W.Frag) (c : Cs) : Sp := spL fun vs H xs => ∃ n s g w x k sx, Vw c H n s g w x ∧ (k = 1 ∨ k = 5) ∧ sx ≤ 1 ∧ vs = [.ref x.a, .int (k : Nat), .int (sx : Nat)] ∧ xs = refs g (w.may s k sx)
def sp_Show_bests (K : PySem.W.Frag) (c : Cs) : Sp := spL fun vs H xs => ∃ n s g w x sx, Vw c H n s g w x ∧ vs = [.ref x.a, .int (sx : Nat)] ∧ xs = refs g (w.finalists s sx)
/-- the kind as which an award counts -/
def upKind (s : Kg73.State) (w : Kg73.Show) (a : Kg73.Award) : Nat :=
  if a.kind = 1 ∧ ((w.holder s 0 (s.dog a.dog).sex).map fun h => Kg73.champion s.kept h) = some true then 0
  else if a.kind = 5 ∧ ((w.holder s 4 (s.dog a.dog).sex).map fun h => Kg73.wideChampion s.kept (s.dog h) h) = some true then 4
  else a.kind
def sp_Show_counts_as (K : PySem.W.Frag) (c : Cs) : Sp := spV fun vs H z => ∃ n s g w x a, Vw c H n s g w x ∧ a ∈ w.awards ∧ vs = [.ref x.a, .ref (g.at a.dog), .int (a.kind : Nat)] ∧ z = .int (upKind s w a : Nat)
/-- a new list of new pairs of a dog and a kind -/
def sp_Show_kept_awards (K : PySem.W.Frag) (c : Cs) : Sp := fun vs H Q _ => ∃ n s g w x, Vw c H n s g w x ∧ vs = [.ref x.a] ∧
  ∀ p H' (l : List (Addr × Kg73.Award)), H p = none → Ex H H' → l.map (·.2) = s.closed w → H' p = some (.lst (l.map fun q => V.ref q.1)) → (∀ q ∈ l, H' q.1 = some (.tup [.ref (g.at q.2.dog), .int (q.2.kind : Nat)])) → Q (.ref p) H'

/-! ### the book -/
def sp_Refusal_init (K : PySem.W.Frag) (c : Cs) : Sp := fun vs H Q _ => ∃ (a : Addr) (y : Int), vs = [.ref a, .int y] ∧ H a = some (exo a c.C_Refusal none) ∧
  ∀ d, H d = none → d ≠ a → Q .non (upd (upd H d (exd d [("number", .int y)])) a (exo a c.C_Refusal (some d)))
/-- an error of the class Refusal that tells a number -/
def Refused (c : Cs) (H : Hp) (E : XK) (v : Int) : Prop := ∀ d H', Ex H H' → H' d = some (.xd [("number", .int v)]) → E (.ref c.C_Refusal) (some d) H'
def sp_refuse_if (K : PySem.W.Frag) (c : Cs) : Sp := fun vs H Q E => ∃ (b : Bool) (v : Int), vs = [.bl b, .int v] ∧ (b = true → Refused c H E v) ∧ (b = false → Q .non H)
def sp_is_class (K : PySem.W.Frag) (c : Cs) : Sp := spV fun vs _ z => ∃ k : Int, vs = [.int k] ∧ z = .bl (Kg73.within k 0 6)
def sp_yes (K : PySem.W.Frag) (c : Cs) : Sp := spV fun vs _ z => ∃ b, vs = [.bl b] ∧ z = .int (Kg73.truth b)
def sp_Book_init (K : PySem.W.Frag) (c : Cs) : Sp := fun vs H Q _ => ∃ (p dx : Addr), vs = [.ref p] ∧ H p = some (.ins c.C_Book dx []) ∧
  ∀ l H', H l = none → l ≠ p → (∀ q o, H q = some o → q ≠ p → H' q = some o) → H' l = some (.lst []) → H' p = some (.ins c.C_Book dx (bookF l .non 0)) → Q .non H'
def sp_Book_has_dog (K : PySem.W.Frag) (c : Cs) : Sp := spV fun vs H z => ∃ n s g i, BookAt c H n s g ∧ vs = [.ref g.b, .int i] ∧ z = .bl (Kg73.isDog s i)
def sp_Book_show_on (K : PySem.W.Frag) (c : Cs) : Sp := fun vs H Q E => ∃ n s g, BookAt c H n s g ∧ vs = [.ref g.b] ∧ (s.show_ = none → Refused c H E (-2)) ∧
  (∀ w x, s.show_ = some w → g.sh = some x → ShowAt c H g.at n w x → ∀ H', Ex H H' → Q (.ref x.a) H')
/-- from g over H to g' over H': what is not g's stands; what is g''s was g's or is new -/
structure Keeps (H : Hp) (g : GBook) (H' : Hp) (g' : GBook) : Prop where
  keep : ∀ a o, H a = some o → a ∉ g.foot → H' a = some o
  new : ∀ a ∈ g'.foot, a ∈ g.foot ∨ H a = none
theorem Keeps.of {H H' : Hp} {g : GBook} (e : Ex H H') : Keeps H g H' g := ⟨fun a o h _ => e a o h, fun _ h => .inl h⟩
/-- a call of the book that the specification knows as k: it is refused as there, or it answers as there and the book lies behind it as there -/
def sp_call (c : Cs) (k : List V → Kg73.Call → Prop) : Sp := fun vs H Q E => ∃ n s g args call, vs = .ref g.b :: args ∧ k args call ∧ BookAt c H n s g ∧ Good s n ∧ n < 250 ∧
  (∀ v, Kg73.spec s call = (s, Kg73.num v) → Refused c H E v) ∧
  (∀ s' v out, Kg73.spec s call = (s', ⟨v, out⟩) → ∀ p H' g', g'.b = g.b → BookAt c H' (n + 1) s' g' → Keeps H g H' g' → H p = none → H' p = some (.lst ((v :: out).map V.int)) → Q (.ref p) H')
def sp_Book_add_dog (K : PySem.W.Frag) (c : Cs) : Sp := fun vs H Q E => ∃ (l : Addr) (x b w : Int), SqL K H l [.int x, .int b, .int w] ∧ sp_call c (fun args k => args = [.ref l] ∧ k = .dog x b w) vs H Q E
def sp_Book_begin_show (K : PySem.W.Frag) (c : Cs) : Sp := fun vs H Q E => ∃ (l : Addr) (d j k w : Int), SqL K H l [.int d, .int j, .int k, .int w] ∧ sp_call c (fun args q => args = [.ref l] ∧ q = .show_ d j k w) vs H Q E
def sp_Book_enter (K : PySem.W.Frag) (c : Cs) : Sp := sp_call c fun args q => ∃ i k : Int, args = [.int i, .int k] ∧ q = .enter i k
def sp_Book_grade (K : PySem.W.Frag) (c : Cs) : Sp := sp_call c fun args q => ∃ i k : Int, args = [.int i, .int k] ∧ q = .grade i k
def sp_Book_row (K : PySem.W.Frag) (c : Cs) : Sp := fun vs H Q E => ∃ (l : Addr) (k x : Int) (ns : List Int), SqL K H l (ns.map V.int) ∧ ns.length ≤ 10 ∧ sp_call c (fun args q => args = [.int k, .int x, .ref l] ∧ q = .row k x ns) vs H Q E
def sp_Book_award (K : PySem.W.Frag) (c : Cs) : Sp := sp_call c fun args q => ∃ i k : Int, args = [.int i, .int k] ∧ q = .award i k
def sp_Book_close_show (K : PySem.W.Frag) (c : Cs) : Sp := sp_call c fun args q => args = [] ∧ q = .close
def sp_Book_may (K : PySem.W.Frag) (c : Cs) : Sp := sp_call c fun args q => ∃ i k : Int, args = [.int i, .int k] ∧ q = .may i k
def sp_Book_titles (K : PySem.W.Frag) (c : Cs) : Sp := sp_call c fun args q => ∃ i : Int, args = [.int i] ∧ q = .titles i
def sp_Book_kept (K : PySem.W.Frag) (c : Cs) : Sp := sp_call c fun args q => ∃ i : Int, args = [.int i] ∧ q = .kept i
def sp_Book_now (K : PySem.W.Frag) (c : Cs) : Sp := sp_call c fun args q => args = [] ∧ q = .now
/-- the numbers and the row of a call, but begin -/
def callIs (no : Int) (ns r : List Int) (q : Kg73.Call) : Prop := match q with
  | .begin_ => False
  | .dog x b w => no = 2 ∧ ns = [x, b, w]
  | .show_ d j k w => no = 3 ∧ ns = [d, j, k, w]
  | .enter i k => no = 4 ∧ ns = [i, k]
  | .grade i k => no = 5 ∧ ns = [i, k]
  | .row k x l => no = 6 ∧ ns = [k, x] ∧ r = l ∧ l.length ≤ 10
  | .award i k => no = 7 ∧ ns = [i, k]
  | .close => no = 8
  | .may i k => no = 9 ∧ ns = [i, k]
  | .titles i => no = 10 ∧ ns = [i]
  | .kept i => no = 11 ∧ ns = [i]
  | .now => no = 12
def sp_answer (K : PySem.W.Frag) (c : Cs) : Sp := fun vs H Q E => ∃ (no : Int) (a r : Addr) (ns row : List Int), SqL K H a (ns.map V.int) ∧ SqL K H r (row.map V.int) ∧
  sp_call c (fun args q => args = [.int no, .ref a, .ref r] ∧ callIs no ns row q) vs H Q E
/-- the call that begins at i of l: its number, its numbers, its row, and where it ends -/
def sp_read_call (K : PySem.W.Frag) (c : Cs) : Sp := fun vs H Q _ => ∃ (a : Addr) (l pre post : List Int) (no : Int) (ns row : List Int) (m k : Nat), SqL K H a (l.map V.int) ∧ l.length ≤ 6000 ∧ vs = [.ref a, .int (pre.length : Nat)] ∧
  PyKg73.shape no = some (ns.length, k) ∧ (k = 0 ∧ row = [] ∧ l = pre ++ (no :: ns) ++ post ∧ m = 1 + ns.length ∨ k = 1 ∧ l = pre ++ (no :: ns) ++ ((row.length : Int) :: row) ++ post ∧ m = 2 + ns.length + row.length) ∧
  ∀ t b r H', Ex H H' → H b = none → H r = none → H' t = some (.tup [.int no, .ref b, .ref r, .int ((pre.length + m : Nat) : Int)]) → H' b = some (.lst (ns.map V.int)) → H' r = some (.lst (row.map V.int)) → Q (.ref t) H'
def sp_top (K : PySem.W.Frag) : Sp := fun vs H Q _ => ∃ (a : Addr) (l : List Int), vs = [.ref a] ∧ SqL K H a (l.map V.int) ∧ l.length ≤ 6000 ∧ PyKg73.answers_asked l = true ∧
  ∀ H' p, H' p = some (.lst ((PyKg73.answers l).map V.int)) → Q (.ref p) H'
def sp_answers (K : PySem.W.Frag) (c : Cs) : Sp := sp_top K

/-! ### a promise asks for as many values as there are parameters -/
section
variable {K : PySem.W.Frag} {c : Cs} {vs : List V} {H : Hp} {Q : VK} {E : XK}
theorem len_Award_init (h : sp_Award_init K c vs H Q E) : vs.length = P_Award_init.length := by obtain ⟨p, dx, k, d, j, co, rfl, _⟩ := h; rfl
theorem len_Dog_init (h : sp_Dog_init K c vs H Q E) : vs.length = P_Dog_init.length := by obtain ⟨p, dx, i, x, b, w, rfl, _⟩ := h; rfl
theorem len_Dog_has_enough (h : sp_Dog_has_enough K c vs H Q E) : vs.length = P_Dog_has_enough.length := by obtain ⟨z, ⟨i, d, ks, g, kind, n, j, co, days, _, _, _, rfl, _⟩, _⟩ := h; rfl
theorem len_title {kind n j co days : Nat} (h : sp_title c kind n j co days vs H Q E) : vs.length = 1 := by obtain ⟨z, ⟨i, d, ks, g, _, _, rfl, _⟩, _⟩ := h; rfl
theorem len_Dog_is_champion (h : sp_Dog_is_champion K c vs H Q E) : vs.length = P_Dog_is_champion.length := len_title h
theorem len_Dog_is_young_champion (h : sp_Dog_is_young_champion K c vs H Q E) : vs.length = P_Dog_is_young_champion.length := len_title h
theorem len_Dog_is_old_champion (h : sp_Dog_is_old_champion K c vs H Q E) : vs.length = P_Dog_is_old_champion.length := len_title h
theorem len_Dog_is_international (h : sp_Dog_is_international K c vs H Q E) : vs.length = P_Dog_is_international.length := by obtain ⟨z, ⟨i, d, ks, g, _, _, rfl, _⟩, _⟩ := h; rfl
theorem len_is_of_age (h : sp_is_of_age K c vs H Q E) : vs.length = P_is_of_age.length := by obtain ⟨z, ⟨k, age, _, rfl, _⟩, _⟩ := h; rfl
theorem len_Show_init (h : sp_Show_init K c vs H Q E) : vs.length = P_Show_init.length := by obtain ⟨p, dx, d, j, co, w, rfl, _⟩ := h; rfl
theorem len_Show_class_of (h : sp_Show_class_of K c vs H Q E) : vs.length = P_Show_class_of.length := by obtain ⟨z, ⟨n, s, g, w, x, i, _, _, rfl, _⟩, _⟩ := h; rfl
theorem len_Show_grade_of (h : sp_Show_grade_of K c vs H Q E) : vs.length = P_Show_grade_of.length := by obtain ⟨z, ⟨n, s, g, w, x, i, _, _, rfl, _⟩, _⟩ := h; rfl
theorem len_Show_placed (h : sp_Show_placed K c vs H Q E) : vs.length = P_Show_placed.length := by obtain ⟨z, ⟨n, s, g, w, x, k, sx, p, _, rfl, _⟩, _⟩ := h; rfl
theorem len_Show_firsts (h : sp_Show_firsts K c vs H Q E) : vs.length = P_Show_firsts.length := by obtain ⟨z, ⟨n, s, g, w, x, sx, _, rfl, _⟩, _⟩ := h; rfl
theorem len_Show_holder (h : sp_Show_holder K c vs H Q E) : vs.length = P_Show_holder.length := by obtain ⟨z, ⟨n, s, g, w, x, k, sx, _, rfl, _⟩, _⟩ := h; rfl
theorem len_Show_is_given (h : sp_Show_is_given K c vs H Q E) : vs.length = P_Show_is_given.length := by obtain ⟨z, ⟨n, s, g, w, x, k, _, rfl, _⟩, _⟩ := h; rfl
theorem len_Show_may_have (h : sp_Show_may_have K c vs H Q E) : vs.length = P_Show_may_have.length := by obtain ⟨z, ⟨n, s, g, w, x, k, sx, _, _, _, rfl, _⟩, _⟩ := h; rfl
theorem len_Show_next_ones (h : sp_Show_next_ones K c vs H Q E) : vs.length = P_Show_next_ones.length := by obtain ⟨z, ⟨n, s, g, w, x, k, sx, _, _, _, rfl, _⟩, _⟩ := h; rfl
theorem len_Show_bests (h : sp_Show_bests K c vs H Q E) : vs.length = P_Show_bests.length := by obtain ⟨z, ⟨n, s, g, w, x, sx, _, rfl, _⟩, _⟩ := h; rfl
theorem len_Show_counts_as (h : sp_Show_counts_as K c vs H Q E) : vs.length = P_Show_counts_as.length := by obtain ⟨z, ⟨n, s, g, w, x, a, _, _, rfl, _⟩, _⟩ := h; rfl
theorem len_Show_kept_awards (h : sp_Show_kept_awards K c vs H Q E) : vs.length = P_Show_kept_awards.length := by obtain ⟨n, s, g, w, x, _, rfl, _⟩ := h; rfl
theorem len_Refusal_init (h : sp_Refusal_init K c vs H Q E) : vs.length = P_Refusal_init.length := by obtain ⟨a, y, rfl, _⟩ := h; rfl
theorem len_refuse_if (h : sp_refuse_if K c vs H Q E) : vs.length = P_refuse_if.length := by obtain ⟨b, v, rfl, _⟩ := h; rfl
theorem len_is_class (h : sp_is_class K c vs H Q E) : vs.length = P_is_class.length := by obtain ⟨z, ⟨k, rfl, _⟩, _⟩ := h; rfl
theorem len_yes (h : sp_yes K c vs H Q E) : vs.length = P_yes.length := by obtain ⟨z, ⟨k, rfl, _⟩, _⟩ := h; rfl
theorem len_Book_init (h : sp_Book_init K c vs H Q E) : vs.length = P_Book_init.length := by obtain ⟨p, dx, rfl, _⟩ := h; rfl
theorem len_Book_has_dog (h : sp_Book_has_dog K c vs H Q E) : vs.length = P_Book_has_dog.length := by obtain ⟨z, ⟨n, s, g, i, _, rfl, _⟩, _⟩ := h; rfl
theorem len_Book_show_on (h : sp_Book_show_on K c vs H Q E) : vs.length = P_Book_show_on.length := by obtain ⟨n, s, g, _, rfl, _⟩ := h; rfl
theorem len_Book_add_dog (h : sp_Book_add_dog K c vs H Q E) : vs.length = P_Book_add_dog.length := by obtain ⟨l, x, b, w, _, n, s, g, args, q, rfl, ⟨rfl, _⟩, _⟩ := h; rfl
theorem len_Book_begin_show (h : sp_Book_begin_show K c vs H Q E) : vs.length = P_Book_begin_show.length := by obtain ⟨l, d, j, k, w, _, n, s, g, args, q, rfl, ⟨rfl, _⟩, _⟩ := h; rfl
theorem len_Book_enter (h : sp_Book_enter K c vs H Q E) : vs.length = P_Book_enter.length := by obtain ⟨n, s, g, args, q, rfl, ⟨i, k, rfl, _⟩, _⟩ := h; rfl
theorem len_Book_grade (h : sp_Book_grade K c vs H Q E) : vs.length = P_Book_grade.length := by obtain ⟨n, s, g, args, q, rfl, ⟨i, k, rfl, _⟩, _⟩ := h; rfl
theorem len_Book_row (h : sp_Book_row K c vs H Q E) : vs.length = P_Book_row.length := by obtain ⟨l, k, x, ns, _, _, n, s, g, args, q, rfl, ⟨rfl, _⟩, _⟩ := h; rfl
theorem len_Book_award (h : sp_Book_award K c vs H Q E) : vs.length = P_Book_award.length := by obtain ⟨n, s, g, args, q, rfl, ⟨i, k, rfl, _⟩, _⟩ := h; rfl
theorem len_Book_close_show (h : sp_Book_close_show K c vs H Q E) : vs.length = P_Book_close_show.length := by obtain ⟨n, s, g, args, q, rfl, ⟨rfl, _⟩, _⟩ := h; rfl
theorem len_Book_may (h : sp_Book_may K c vs H Q E) : vs.length = P_Book_may.length := by obtain ⟨n, s, g, args, q, rfl, ⟨i, k, rfl, _⟩, _⟩ := h; rfl
theorem len_Book_titles (h : sp_Book_titles K c vs H Q E) : vs.length = P_Book_titles.length := by obtain ⟨n, s, g, args, q, rfl, ⟨i, rfl, _⟩, _⟩ := h; rfl
theorem len_Book_kept (h : sp_Book_kept K c vs H Q E) : vs.length = P_Book_kept.length := by obtain ⟨n, s, g, args, q, rfl, ⟨i, rfl, _⟩, _⟩ := h; rfl
theorem len_Book_now (h : sp_Book_now K c vs H Q E) : vs.length = P_Book_now.length := by obtain ⟨n, s, g, args, q, rfl, ⟨rfl, _⟩, _⟩ := h; rfl
theorem len_answer (h : sp_answer K c vs H Q E) : vs.length = P_answer.length := by obtain ⟨no, a, r, ns, row, _, _, n, s, g, args, q, rfl, ⟨rfl, _⟩, _⟩ := h; rfl
theorem len_read_call (h : sp_read_call K c vs H Q E) : vs.length = P_read_call.length := by obtain ⟨a, l, pre, post, no, ns, row, m, k, _, _, rfl, _⟩ := h; rfl
theorem len_answers (h : sp_answers K c vs H Q E) : vs.length = P_answers.length := by obtain ⟨a, l, rfl, _⟩ := h; rfl
end
end Ds

/-! Printed by gen.py: the reading of each def. -/
namespace Ds
open PySem PySem.Spec PyProof.Rows L2 Evl

/-- Award.__init__ -/
def t_Award_init (K : PySem.W.Frag) (c : Cs) : TS :=
  (tSeq (sFld K (tVar 0) (tVar 1) "kind") (tSeq (sFld K (tVar 0) (tVar 2) "day") (tSeq (sFld K (tVar 0) (tVar 3) "judge") (sFld K (tVar 0) (tVar 4) "country"))))
/-- Dog.__init__ -/
def t_Dog_init (K : PySem.W.Frag) (c : Cs) : TS :=
  (tSeq (sFld K (tVar 0) (tVar 1) "number") (tSeq (sFld K (tVar 0) (tVar 2) "sex") (tSeq (sFld K (tVar 0) (tVar 3) "born") (tSeq (sFld K (tVar 0) (tVar 4) "worked") (sFld K (tVar 0) (tLst tNil) "awards")))))
/-- Dog.has_enough -/
def t_Dog_has_enough (K : PySem.W.Frag) (c : Cs) : TS :=
  (tSeq (tAsg (tLc (iList K (tFld K (tVar 0) "awards")) (gName 8) (tTest (tOp rEq (tFld K (tVar 8) "kind") (tVar 1))) (tVar 8) [8]) (gName 6)) (tSeq (tIfS (tTest (tOp (rI0 fun i j => .bl (decide (i < j))) (tCB (rLenS K) (tCons (tVar 6) tNil)) (tVar 2))) (tRet (tC (.bl false))) tNext) (tSeq (tIfS (tTest (tOp (rI0 fun i j => .bl (decide (i < j))) (tLenSet K (tLc (iList K (tVar 6)) (gName 8) tYes (tFld K (tVar 8) "judge") [8])) (tVar 3))) (tRet (tC (.bl false))) tNext) (tSeq (tIfS (tTest (tOp (rI0 fun i j => .bl (decide (i < j))) (tLenSet K (tLc (iList K (tVar 6)) (gName 8) tYes (tFld K (tVar 8) "country") [8])) (tVar 4))) (tRet (tC (.bl false))) tNext) (tSeq (tAsg (tLc (iList K (tVar 6)) (gName 8) tYes (tFld K (tVar 8) "day") [8]) (gName 7)) (tRet (tOp (rI0 fun i j => .bl (decide (j ≤ i))) (tOp (rI0 fun i j => .int (i - j)) (tCB (rMax K) (tCons (tVar 7) tNil)) (tCB (rMin K) (tCons (tVar 7) tNil))) (tVar 5))))))))
/-- Dog.is_champion -/
def t_Dog_is_champion (K : PySem.W.Frag) (c : Cs) : TS :=
  (tRet (tMeth c.C_Dog "has_enough" (sp_Dog_has_enough K c) [] E0 (tVar 0) (tCons (tC (.int 0)) (tCons (tC (.int 3)) (tCons (tC (.int 3)) (tCons (tC (.int 1)) (tCons (tC (.int 366)) tNil)))))))
/-- Dog.is_young_champion -/
def t_Dog_is_young_champion (K : PySem.W.Frag) (c : Cs) : TS :=
  (tRet (tMeth c.C_Dog "has_enough" (sp_Dog_has_enough K c) [] E0 (tVar 0) (tCons (tC (.int 2)) (tCons (tC (.int 3)) (tCons (tC (.int 2)) (tCons (tC (.int 1)) (tCons (tC (.int 0)) tNil)))))))
/-- Dog.is_old_champion -/
def t_Dog_is_old_champion (K : PySem.W.Frag) (c : Cs) : TS :=
  (tRet (tMeth c.C_Dog "has_enough" (sp_Dog_has_enough K c) [] E0 (tVar 0) (tCons (tC (.int 3)) (tCons (tC (.int 3)) (tCons (tC (.int 2)) (tCons (tC (.int 1)) (tCons (tC (.int 0)) tNil)))))))
/-- Dog.is_international -/
def t_Dog_is_international (K : PySem.W.Frag) (c : Cs) : TS :=
  (tSeq (tIfS (tB (tMeth c.C_Dog "has_enough" (sp_Dog_has_enough K c) [] E0 (tVar 0) (tCons (tC (.int 4)) (tCons (tC (.int 4)) (tCons (tC (.int 3)) (tCons (tC (.int 3)) (tCons (tC (.int 366)) tNil))))))) (tRet (tC (.bl true))) tNext) (tRet (tAndV (tFld K (tVar 0) "worked") (tMeth c.C_Dog "has_enough" (sp_Dog_has_enough K c) [] E0 (tVar 0) (tCons (tC (.int 4)) (tCons (tC (.int 2)) (tCons (tC (.int 2)) (tCons (tC (.int 2)) (tCons (tC (.int 366)) tNil)))))))))
/-- is_of_age -/
def t_is_of_age (K : PySem.W.Frag) (c : Cs) : TS :=
  (tSeq (tAsg (tOp (rIxT K) (tC (.ref c.a_AGES)) (tVar 0)) (gTup K 2 (gCons (gName 2) (gCons (gName 3) gNil)))) (tRet (tAndV (tOp (rI0 fun i j => .bl (decide (j ≤ i))) (tVar 1) (tVar 2)) (tOrV (tOp rEq (tVar 3) (tC (.int 0))) (tOp (rI0 fun i j => .bl (decide (i ≤ j))) (tVar 1) (tVar 3))))))
/-- Show.__init__ -/
def t_Show_init (K : PySem.W.Frag) (c : Cs) : TS :=
  (tSeq (sFld K (tVar 0) (tVar 1) "day") (tSeq (sFld K (tVar 0) (tVar 2) "judge") (tSeq (sFld K (tVar 0) (tVar 3) "country") (tSeq (sFld K (tVar 0) (tVar 4) "international") (tSeq (sFld K (tVar 0) (tLst tNil) "entered") (tSeq (sFld K (tVar 0) tDNewK "grades") (tSeq (sFld K (tVar 0) tDNewT "rows") (sFld K (tVar 0) (tLst tNil) "given"))))))))
/-- Show.class_of -/
def t_Show_class_of (K : PySem.W.Frag) (c : Cs) : TS :=
  (tSeq (tFor (iList K (tFld K (tVar 0) "entered")) (gTup K 2 (gCons (gName 2) (gCons (gName 3) gNil))) (tIfS (tTest (tOp rEq (tFld K (tVar 2) "number") (tFld K (tVar 1) "number"))) (tRet (tVar 3)) tNext)) (tRet (tUn (rU fun i => .int (-i)) (tC (.int 1)))))
/-- Show.grade_of -/
def t_Show_grade_of (K : PySem.W.Frag) (c : Cs) : TS :=
  (tRet (tDGet2 (tFld K (tVar 0) "grades") (tFld K (tVar 1) "number") (tC (.int 0))))
/-- Show.placed -/
def t_Show_placed (K : PySem.W.Frag) (c : Cs) : TS :=
  (tSeq (tAsg (tDGet2 (tFld K (tVar 0) "rows") (tTup (tCons (tVar 1) (tCons (tVar 2) tNil))) (tLst tNil)) (gName 4)) (tSeq (tIfS (tOr (tTest (tOp (rI0 fun i j => .bl (decide (j ≤ i))) (tVar 3) (tCB (rLenS K) (tCons (tVar 4) tNil)))) (tTest (tOp rNe (tMeth c.C_Show "grade_of" (sp_Show_grade_of K c) [] E0 (tVar 0) (tCons (tOp (rIxL K) (tVar 4) (tVar 3)) tNil)) (tC (.int 3))))) (tRet (tLst tNil)) tNext) (tRet (tLst (tCons (tOp (rIxL K) (tVar 4) (tVar 3)) tNil)))))
/-- Show.firsts -/
def t_Show_firsts (K : PySem.W.Frag) (c : Cs) : TS :=
  (tSeq (tAsg (tLst tNil) (gName 2)) (tSeq (tFor (iTup K (tC (.ref c.a_GROWN))) (gName 3) (tDrop (tBM K "list" rExtend (tVar 2) (tCons (tMeth c.C_Show "placed" (sp_Show_placed K c) [] E0 (tVar 0) (tCons (tVar 3) (tCons (tVar 1) (tCons (tC (.int 0)) tNil)))) tNil)))) (tRet (tVar 2))))
/-- Show.holder -/
def t_Show_holder (K : PySem.W.Frag) (c : Cs) : TS :=
  (tSeq (tFor (iList K (tFld K (tVar 0) "given")) (gTup K 2 (gCons (gName 3) (gCons (gName 4) gNil))) (tIfS (tAnd (tTest (tOp rEq (tVar 4) (tVar 1))) (tTest (tOp rEq (tFld K (tVar 3) "sex") (tVar 2)))) (tRet (tVar 3)) tNext)) (tRet (tC .non)))
/-- Show.is_given -/
def t_Show_is_given (K : PySem.W.Frag) (c : Cs) : TS :=
  (tRet (tCB (rAny K) (tCons (tLc (iList K (tFld K (tVar 0) "given")) (gTup K 2 (gCons (gName 2) (gCons (gName 3) gNil))) tYes (tOp rEq (tVar 3) (tVar 1)) [2, 3]) tNil)))
/-- Show.may_have -/
def t_Show_may_have (K : PySem.W.Frag) (c : Cs) : TS :=
  (tSeq (tIfS (tAnd (tTest (tOp (rIn K false) (tVar 1) (tTup (tCons (tC (.int 4)) (tCons (tC (.int 5)) tNil))))) (tNot (tB (tFld K (tVar 0) "international")))) (tRet (tLst tNil)) tNext) (tSeq (tIfS (tTest (tOp (rIn K false) (tVar 1) (tTup (tCons (tC (.int 0)) (tCons (tC (.int 4)) tNil))))) (tSeq (tIfS (tB (tNotN (tMeth c.C_Show "holder" (sp_Show_holder K c) [] E0 (tVar 0) (tCons (tVar 1) (tCons (tVar 2) tNil))))) (tRet (tLst tNil)) tNext) (tRet (tMeth c.C_Show "firsts" (sp_Show_firsts K c) [] E0 (tVar 0) (tCons (tVar 2) tNil)))) tNext) (tSeq (tIfS (tTest (tOp (rIn K false) (tVar 1) (tTup (tCons (tC (.int 1)) (tCons (tC (.int 5)) tNil))))) (tRet (tMeth c.C_Show "next_ones" (sp_Show_next_ones K c) [] E0 (tVar 0) (tCons (tVar 1) (tCons (tVar 2) tNil)))) tNext) (tSeq (tIfS (tAnd (tTest (tOp rEq (tVar 1) (tC (.int 6)))) (tNot (tB (tMeth c.C_Show "is_given" (sp_Show_is_given K c) [] E0 (tVar 0) (tCons (tC (.int 6)) tNil))))) (tRet (tMeth c.C_Show "bests" (sp_Show_bests K c) [] E0 (tVar 0) (tCons (tVar 2) tNil))) tNext) (tSeq (tIfS (tAnd (tTest (tOp rEq (tVar 1) (tC (.int 7)))) (tAnd (tB (tNotN (tMeth c.C_Show "holder" (sp_Show_holder K c) [] E0 (tVar 0) (tCons (tC (.int 6)) (tCons (tOp (rI0 fun i j => .int (i - j)) (tC (.int 1)) (tVar 2)) tNil))))) (tNot (tB (tMeth c.C_Show "is_given" (sp_Show_is_given K c) [] E0 (tVar 0) (tCons (tC (.int 7)) tNil)))))) (tRet (tMeth c.C_Show "bests" (sp_Show_bests K c) [] E0 (tVar 0) (tCons (tVar 2) tNil))) tNext) (tRet (tLst tNil)))))))
/-- Show.next_ones -/
def t_Show_next_ones (K : PySem.W.Frag) (c : Cs) : TS :=
  (tSeq (tAsg (tMeth c.C_Show "holder" (sp_Show_holder K c) [] E0 (tVar 0) (tCons (tOp (rI0 fun i j => .int (i - j)) (tVar 1) (tC (.int 1))) (tCons (tVar 2) tNil))) (gName 3)) (tSeq (tIfS (tOr (tB (tIsN (tVar 3))) (tB (tNotN (tMeth c.C_Show "holder" (sp_Show_holder K c) [] E0 (tVar 0) (tCons (tVar 1) (tCons (tVar 2) tNil)))))) (tRet (tLst tNil)) tNext) (tSeq (tAsg (tLc (iList K (tMeth c.C_Show "firsts" (sp_Show_firsts K c) [] E0 (tVar 0) (tCons (tVar 2) tNil))) (gName 5) (tTest (tOp rNe (tFld K (tVar 5) "number") (tFld K (tVar 3) "number"))) (tVar 5) [5]) (gName 4)) (tRet (tOp rCat (tVar 4) (tMeth c.C_Show "placed" (sp_Show_placed K c) [] E0 (tVar 0) (tCons (tMeth c.C_Show "class_of" (sp_Show_class_of K c) [] E0 (tVar 0) (tCons (tVar 3) tNil)) (tCons (tVar 2) (tCons (tC (.int 1)) tNil)))))))))
/-- Show.bests -/
def t_Show_bests (K : PySem.W.Frag) (c : Cs) : TS :=
  (tSeq (tAsg (tLst tNil) (gName 2)) (tSeq (tAsg (tMeth c.C_Show "holder" (sp_Show_holder K c) [] E0 (tVar 0) (tCons (tC (.int 0)) (tCons (tVar 1) tNil))) (gName 3)) (tSeq (tIfS (tB (tNotN (tVar 3))) (tDrop (tBM K "list" rAppend (tVar 2) (tCons (tVar 3) tNil))) tNext) (tSeq (tDrop (tBM K "list" rExtend (tVar 2) (tCons (tMeth c.C_Show "placed" (sp_Show_placed K c) [] E0 (tVar 0) (tCons (tC (.int 1)) (tCons (tVar 1) (tCons (tC (.int 0)) tNil)))) tNil))) (tSeq (tDrop (tBM K "list" rExtend (tVar 2) (tCons (tMeth c.C_Show "placed" (sp_Show_placed K c) [] E0 (tVar 0) (tCons (tC (.int 6)) (tCons (tVar 1) (tCons (tC (.int 0)) tNil)))) tNil))) (tRet (tVar 2)))))))
/-- Show.counts_as -/
def t_Show_counts_as (K : PySem.W.Frag) (c : Cs) : TS :=
  (tSeq (tIfS (tAnd (tTest (tOp rEq (tVar 2) (tC (.int 1)))) (tB (tMeth c.C_Dog "is_champion" (sp_Dog_is_champion K c) [] E0 (tMeth c.C_Show "holder" (sp_Show_holder K c) [] E0 (tVar 0) (tCons (tC (.int 0)) (tCons (tFld K (tVar 1) "sex") tNil))) tNil))) (tRet (tC (.int 0))) tNext) (tSeq (tIfS (tAnd (tTest (tOp rEq (tVar 2) (tC (.int 5)))) (tB (tMeth c.C_Dog "is_international" (sp_Dog_is_international K c) [] E0 (tMeth c.C_Show "holder" (sp_Show_holder K c) [] E0 (tVar 0) (tCons (tC (.int 4)) (tCons (tFld K (tVar 1) "sex") tNil))) tNil))) (tRet (tC (.int 4))) tNext) (tRet (tVar 2))))
/-- Show.kept_awards -/
def t_Show_kept_awards (K : PySem.W.Frag) (c : Cs) : TS :=
  (tSeq (tAsg (tLst tNil) (gName 1)) (tSeq (tFor (iTup K (tTup (tCons (tC (.int 0)) (tCons (tC (.int 1)) tNil)))) (gName 2) (tSeq (tFor (iList K (tMeth c.C_Show "placed" (sp_Show_placed K c) [] E0 (tVar 0) (tCons (tC (.int 1)) (tCons (tVar 2) (tCons (tC (.int 0)) tNil))))) (gName 3) (tDrop (tBM K "list" rAppend (tVar 1) (tCons (tTup (tCons (tVar 3) (tCons (tC (.int 2)) tNil))) tNil)))) (tFor (iList K (tMeth c.C_Show "placed" (sp_Show_placed K c) [] E0 (tVar 0) (tCons (tC (.int 6)) (tCons (tVar 2) (tCons (tC (.int 0)) tNil))))) (gName 3) (tDrop (tBM K "list" rAppend (tVar 1) (tCons (tTup (tCons (tVar 3) (tCons (tC (.int 3)) tNil))) tNil)))))) (tSeq (tFor (iList K (tFld K (tVar 0) "given")) (gTup K 2 (gCons (gName 3) (gCons (gName 4) gNil))) (tDrop (tBM K "list" rAppend (tVar 1) (tCons (tTup (tCons (tVar 3) (tCons (tMeth c.C_Show "counts_as" (sp_Show_counts_as K c) [] E0 (tVar 0) (tCons (tVar 3) (tCons (tVar 4) tNil))) tNil))) tNil)))) (tRet (tVar 1)))))
/-- Refusal.__init__ -/
def t_Refusal_init (K : PySem.W.Frag) (c : Cs) : TS :=
  (tSeq (tDrop (tVeI K (tCons (tVar 0) (tCons (tC (.str (Str.ofString "refused"))) tNil)))) (tOst K "number" (tVar 0) (tVar 1)))
/-- refuse_if -/
def t_refuse_if (K : PySem.W.Frag) (c : Cs) (E : XK) : TS :=
  (tIfS (tB (tVar 0)) (fun _ σ H => tMkO c.C_Refusal (sp_Refusal_init K c) [] (tCons (tVar 1) tNil) σ H fun cls d H' => E cls d H') tNext)
/-- is_class -/
def t_is_class (K : PySem.W.Frag) (c : Cs) : TS :=
  (tRet (tChain (rI0 fun i j => .bl (decide (i ≤ j))) (rI0 fun i j => .bl (decide (i < j))) (tC (.int 0)) (tVar 0) (tCB (rLenS K) (tCons (tC (.ref c.a_AGES)) tNil))))
/-- yes -/
def t_yes (K : PySem.W.Frag) (c : Cs) : TS :=
  (tSeq (tIfS (tB (tVar 0)) (tRet (tC (.int 1))) tNext) (tRet (tC (.int 0))))
/-- Book.__init__ -/
def t_Book_init (K : PySem.W.Frag) (c : Cs) : TS :=
  (tSeq (sFld K (tVar 0) (tLst tNil) "dogs") (tSeq (sFld K (tVar 0) (tC .non) "show") (sFld K (tVar 0) (tC (.int 0)) "last_day")))
/-- Book.has_dog -/
def t_Book_has_dog (K : PySem.W.Frag) (c : Cs) : TS :=
  (tRet (tChain (rI0 fun i j => .bl (decide (i ≤ j))) (rI0 fun i j => .bl (decide (i < j))) (tC (.int 0)) (tVar 1) (tCB (rLenS K) (tCons (tFld K (tVar 0) "dogs") tNil))))
/-- Book.show_on -/
def t_Book_show_on (K : PySem.W.Frag) (c : Cs) (E : XK) : TS :=
  (tSeq (tDrop (tCall (sp_refuse_if K c) [] E (tCons (tIsN (tFld K (tVar 0) "show")) (tCons (tUn (rU fun i => .int (-i)) (tC (.int 2))) tNil)))) (tRet (tFld K (tVar 0) "show")))
/-- Book.add_dog -/
def t_Book_add_dog (K : PySem.W.Frag) (c : Cs) (E : XK) : TS :=
  (tSeq (tAsg (tVar 1) (gUnl K 3 (gCons (gName 2) (gCons (gName 3) (gCons (gName 4) gNil))))) (tSeq (tDrop (tCall (sp_refuse_if K c) [] E (tCons (tOrV (tOp (rIn K true) (tVar 2) (tTup (tCons (tC (.int 0)) (tCons (tC (.int 1)) tNil)))) (tOrV (tOp (rIn K true) (tVar 4) (tTup (tCons (tC (.int 0)) (tCons (tC (.int 1)) tNil)))) (tNotV (tChain (rI0 fun i j => .bl (decide (i ≤ j))) (rI0 fun i j => .bl (decide (i ≤ j))) (tC (.int 0)) (tVar 3) (tC (.int 100000)))))) (tCons (tUn (rU fun i => .int (-i)) (tC (.int 1))) tNil)))) (tSeq (tDrop (tCall (sp_refuse_if K c) [] E (tCons (tOp (rI0 fun i j => .bl (decide (j ≤ i))) (tCB (rLenS K) (tCons (tFld K (tVar 0) "dogs") tNil)) (tC (.int 60))) (tCons (tUn (rU fun i => .int (-i)) (tC (.int 5))) tNil)))) (tSeq (tDrop (tBM K "list" rAppend (tFld K (tVar 0) "dogs") (tCons (tMake c.C_Dog (sp_Dog_init K c) [] E0 (tCons (tCB (rLenS K) (tCons (tFld K (tVar 0) "dogs") tNil)) (tCons (tVar 2) (tCons (tVar 3) (tCons (tOp rEq (tVar 4) (tC (.int 1))) tNil))))) tNil))) (tRet (tLst (tCons (tOp (rI0 fun i j => .int (i - j)) (tCB (rLenS K) (tCons (tFld K (tVar 0) "dogs") tNil)) (tC (.int 1))) tNil)))))))
/-- Book.begin_show -/
def t_Book_begin_show (K : PySem.W.Frag) (c : Cs) (E : XK) : TS :=
  (tSeq (tAsg (tVar 1) (gUnl K 4 (gCons (gName 3) (gCons (gName 4) (gCons (gName 5) (gCons (gName 6) gNil)))))) (tSeq (tAsg (tOrV (tNotV (tChain (rI0 fun i j => .bl (decide (i ≤ j))) (rI0 fun i j => .bl (decide (i ≤ j))) (tC (.int 0)) (tVar 3) (tC (.int 200000)))) (tOrV (tNotV (tChain (rI0 fun i j => .bl (decide (i ≤ j))) (rI0 fun i j => .bl (decide (i ≤ j))) (tC (.int 0)) (tVar 4) (tC (.int 100)))) (tNotV (tChain (rI0 fun i j => .bl (decide (i ≤ j))) (rI0 fun i j => .bl (decide (i ≤ j))) (tC (.int 0)) (tVar 5) (tC (.int 50)))))) (gName 2)) (tSeq (tDrop (tCall (sp_refuse_if K c) [] E (tCons (tOrV (tVar 2) (tOp (rIn K true) (tVar 6) (tTup (tCons (tC (.int 0)) (tCons (tC (.int 1)) tNil))))) (tCons (tUn (rU fun i => .int (-i)) (tC (.int 1))) tNil)))) (tSeq (tDrop (tCall (sp_refuse_if K c) [] E (tCons (tNotN (tFld K (tVar 0) "show")) (tCons (tUn (rU fun i => .int (-i)) (tC (.int 3))) tNil)))) (tSeq (tDrop (tCall (sp_refuse_if K c) [] E (tCons (tOp (rI0 fun i j => .bl (decide (i < j))) (tVar 3) (tFld K (tVar 0) "last_day")) (tCons (tUn (rU fun i => .int (-i)) (tC (.int 4))) tNil)))) (tSeq (sFld K (tVar 0) (tMake c.C_Show (sp_Show_init K c) [] E0 (tCons (tVar 3) (tCons (tVar 4) (tCons (tVar 5) (tCons (tOp rEq (tVar 6) (tC (.int 1))) tNil))))) "show") (tSeq (sFld K (tVar 0) (tVar 3) "last_day") (tRet (tLst (tCons (tC (.int 0)) tNil))))))))))
/-- Book.enter -/
def t_Book_enter (K : PySem.W.Frag) (c : Cs) (E : XK) : TS :=
  (tSeq (tDrop (tCall (sp_refuse_if K c) [] E (tCons (tOrV (tNotV (tMeth c.C_Book "has_dog" (sp_Book_has_dog K c) [] E0 (tVar 0) (tCons (tVar 1) tNil))) (tNotV (tCall (sp_is_class K c) [] E0 (tCons (tVar 2) tNil)))) (tCons (tUn (rU fun i => .int (-i)) (tC (.int 1))) tNil)))) (tSeq (tAsg (tMeth c.C_Book "show_on" (sp_Book_show_on K c) [] E (tVar 0) tNil) (gName 3)) (tSeq (tAsg (tOp (rIxL K) (tFld K (tVar 0) "dogs") (tVar 1)) (gName 4)) (tSeq (tDrop (tCall (sp_refuse_if K c) [] E (tCons (tOrV (tOp (rI0 fun i j => .bl (decide (j ≤ i))) (tMeth c.C_Show "class_of" (sp_Show_class_of K c) [] E0 (tVar 3) (tCons (tVar 4) tNil)) (tC (.int 0))) (tOp (rI0 fun i j => .bl (decide (j < i))) (tCB rLenT (tCons (tFld K (tVar 3) "rows") tNil)) (tC (.int 0)))) (tCons (tUn (rU fun i => .int (-i)) (tC (.int 5))) tNil)))) (tSeq (tDrop (tCall (sp_refuse_if K c) [] E (tCons (tOrV (tOp (rI0 fun i j => .bl (decide (j < i))) (tFld K (tVar 4) "born") (tFld K (tVar 3) "day")) (tNotV (tCall (sp_is_of_age K c) [] E0 (tCons (tVar 2) (tCons (tOp (rI0 fun i j => .int (i - j)) (tFld K (tVar 3) "day") (tFld K (tVar 4) "born")) tNil))))) (tCons (tUn (rU fun i => .int (-i)) (tC (.int 4))) tNil)))) (tSeq (tDrop (tCall (sp_refuse_if K c) [] E (tCons (tAndV (tOp rEq (tVar 2) (tC (.int 4))) (tNotV (tFld K (tVar 4) "worked"))) (tCons (tUn (rU fun i => .int (-i)) (tC (.int 6))) tNil)))) (tSeq (tDrop (tCall (sp_refuse_if K c) [] E (tCons (tAndV (tOp rEq (tVar 2) (tC (.int 5))) (tNotV (tOrV (tMeth c.C_Dog "is_champion" (sp_Dog_is_champion K c) [] E0 (tVar 4) tNil) (tMeth c.C_Dog "is_international" (sp_Dog_is_international K c) [] E0 (tVar 4) tNil)))) (tCons (tUn (rU fun i => .int (-i)) (tC (.int 6))) tNil)))) (tSeq (tDrop (tBM K "list" rAppend (tFld K (tVar 3) "entered") (tCons (tTup (tCons (tVar 4) (tCons (tVar 2) tNil))) tNil))) (tRet (tLst (tCons (tOp (rI0 fun i j => .int (i - j)) (tCB (rLenS K) (tCons (tFld K (tVar 3) "entered") tNil)) (tC (.int 1))) tNil)))))))))))
/-- Book.grade -/
def t_Book_grade (K : PySem.W.Frag) (c : Cs) (E : XK) : TS :=
  (tSeq (tDrop (tCall (sp_refuse_if K c) [] E (tCons (tOrV (tNotV (tMeth c.C_Book "has_dog" (sp_Book_has_dog K c) [] E0 (tVar 0) (tCons (tVar 1) tNil))) (tNotV (tChain (rI0 fun i j => .bl (decide (i ≤ j))) (rI0 fun i j => .bl (decide (i ≤ j))) (tC (.int 1)) (tVar 2) (tC (.int 3))))) (tCons (tUn (rU fun i => .int (-i)) (tC (.int 1))) tNil)))) (tSeq (tAsg (tMeth c.C_Book "show_on" (sp_Book_show_on K c) [] E (tVar 0) tNil) (gName 3)) (tSeq (tDrop (tCall (sp_refuse_if K c) [] E (tCons (tOp (rI0 fun i j => .bl (decide (i < j))) (tMeth c.C_Show "class_of" (sp_Show_class_of K c) [] E0 (tVar 3) (tCons (tOp (rIxL K) (tFld K (tVar 0) "dogs") (tVar 1)) tNil)) (tC (.int 0))) (tCons (tUn (rU fun i => .int (-i)) (tC (.int 4))) tNil)))) (tSeq (tDrop (tCall (sp_refuse_if K c) [] E (tCons (tOp (rI0 fun i j => .bl (decide (j < i))) (tCB rLenT (tCons (tFld K (tVar 3) "rows") tNil)) (tC (.int 0))) (tCons (tUn (rU fun i => .int (-i)) (tC (.int 5))) tNil)))) (tSeq (sDPut (tFld K (tVar 3) "grades") (tVar 1) (tVar 2)) (tRet (tLst (tCons (tC (.int 0)) tNil))))))))
/-- Book.row -/
def t_Book_row (K : PySem.W.Frag) (c : Cs) (E : XK) : TS :=
  (tSeq (tAsg (tOrV (tNotV (tCall (sp_is_class K c) [] E0 (tCons (tVar 1) tNil))) (tOrV (tOp (rIn K true) (tVar 2) (tTup (tCons (tC (.int 0)) (tCons (tC (.int 1)) tNil)))) (tNotV (tChain (rI0 fun i j => .bl (decide (i ≤ j))) (rI0 fun i j => .bl (decide (i ≤ j))) (tC (.int 1)) (tCB (rLenS K) (tCons (tVar 3) tNil)) (tC (.int 4)))))) (gName 4)) (tSeq (tDrop (tCall (sp_refuse_if K c) [] E (tCons (tOrV (tVar 4) (tNotV (tCB (rAll K) (tCons (tLc (iList K (tVar 3)) (gName 10) tYes (tMeth c.C_Book "has_dog" (sp_Book_has_dog K c) [] E0 (tVar 0) (tCons (tVar 10) tNil)) [10]) tNil)))) (tCons (tUn (rU fun i => .int (-i)) (tC (.int 1))) tNil)))) (tSeq (tDrop (tCall (sp_refuse_if K c) [] E (tCons (tOp (rI0 fun i j => .bl (decide (i < j))) (tLenSet K (tVar 3)) (tCB (rLenS K) (tCons (tVar 3) tNil))) (tCons (tUn (rU fun i => .int (-i)) (tC (.int 1))) tNil)))) (tSeq (tAsg (tMeth c.C_Book "show_on" (sp_Book_show_on K c) [] E (tVar 0) tNil) (gName 5)) (tSeq (tAsg (tLc (iList K (tVar 3)) (gName 10) tYes (tOp (rIxL K) (tFld K (tVar 0) "dogs") (tVar 10)) [10]) (gName 6)) (tSeq (tAsg (tC (.int 3)) (gName 7)) (tSeq (tFor (iList K (tVar 6)) (gName 8) (tSeq (tAsg (tMeth c.C_Show "grade_of" (sp_Show_grade_of K c) [] E0 (tVar 5) (tCons (tVar 8) tNil)) (gName 9)) (tSeq (tDrop (tCall (sp_refuse_if K c) [] E (tCons (tOrV (tOp rNe (tFld K (tVar 8) "sex") (tVar 2)) (tOp rNe (tMeth c.C_Show "class_of" (sp_Show_class_of K c) [] E0 (tVar 5) (tCons (tVar 8) tNil)) (tVar 1))) (tCons (tUn (rU fun i => .int (-i)) (tC (.int 4))) tNil)))) (tSeq (tDrop (tCall (sp_refuse_if K c) [] E (tCons (tOrV (tOp (rI0 fun i j => .bl (decide (i < j))) (tVar 9) (tC (.int 2))) (tOp (rI0 fun i j => .bl (decide (j < i))) (tVar 9) (tVar 7))) (tCons (tUn (rU fun i => .int (-i)) (tC (.int 4))) tNil)))) (tAsg (tVar 9) (gName 7)))))) (tSeq (tDrop (tCall (sp_refuse_if K c) [] E (tCons (tOrV (tDIn (tTup (tCons (tVar 1) (tCons (tVar 2) tNil))) (tFld K (tVar 5) "rows")) (tOp (rI0 fun i j => .bl (decide (j < i))) (tCB (rLenS K) (tCons (tFld K (tVar 5) "given") tNil)) (tC (.int 0)))) (tCons (tUn (rU fun i => .int (-i)) (tC (.int 5))) tNil)))) (tSeq (sDPut (tFld K (tVar 5) "rows") (tTup (tCons (tVar 1) (tCons (tVar 2) tNil))) (tVar 6)) (tRet (tLst (tCons (tCB (rLenS K) (tCons (tVar 6) tNil)) tNil))))))))))))
/-- Book.award -/
def t_Book_award (K : PySem.W.Frag) (c : Cs) (E : XK) : TS :=
  (tSeq (tDrop (tCall (sp_refuse_if K c) [] E (tCons (tOrV (tNotV (tMeth c.C_Book "has_dog" (sp_Book_has_dog K c) [] E0 (tVar 0) (tCons (tVar 1) tNil))) (tOp (rIn K true) (tVar 2) (tC (.ref c.a_AWARDS)))) (tCons (tUn (rU fun i => .int (-i)) (tC (.int 1))) tNil)))) (tSeq (tAsg (tMeth c.C_Book "show_on" (sp_Book_show_on K c) [] E (tVar 0) tNil) (gName 3)) (tSeq (tAsg (tOp (rIxL K) (tFld K (tVar 0) "dogs") (tVar 1)) (gName 4)) (tSeq (tDrop (tCall (sp_refuse_if K c) [] E (tCons (tNotV (tCB (rAny K) (tCons (tLc (iList K (tMeth c.C_Show "may_have" (sp_Show_may_have K c) [] E0 (tVar 3) (tCons (tVar 2) (tCons (tFld K (tVar 4) "sex") tNil)))) (gName 5) tYes (tOp rEq (tFld K (tVar 5) "number") (tVar 1)) [5]) tNil))) (tCons (tUn (rU fun i => .int (-i)) (tC (.int 4))) tNil)))) (tSeq (tDrop (tBM K "list" rAppend (tFld K (tVar 3) "given") (tCons (tTup (tCons (tVar 4) (tCons (tVar 2) tNil))) tNil))) (tRet (tLst (tCons (tCB (rLenS K) (tCons (tFld K (tVar 3) "given") tNil)) tNil))))))))
/-- Book.close_show -/
def t_Book_close_show (K : PySem.W.Frag) (c : Cs) (E : XK) : TS :=
  (tSeq (tAsg (tMeth c.C_Book "show_on" (sp_Book_show_on K c) [] E (tVar 0) tNil) (gName 1)) (tSeq (tAsg (tMeth c.C_Show "kept_awards" (sp_Show_kept_awards K c) [] E0 (tVar 1) tNil) (gName 2)) (tSeq (tAsg (tLst (tCons (tCB (rLenS K) (tCons (tVar 2) tNil)) tNil)) (gName 3)) (tSeq (tFor (iList K (tVar 2)) (gTup K 2 (gCons (gName 4) (gCons (gName 5) gNil))) (tDrop (tBM K "list" rExtend (tVar 3) (tCons (tLst (tCons (tFld K (tVar 4) "number") (tCons (tVar 5) tNil))) tNil)))) (tSeq (tFor (iList K (tVar 2)) (gTup K 2 (gCons (gName 4) (gCons (gName 5) gNil))) (tDrop (tBM K "list" rAppend (tFld K (tVar 4) "awards") (tCons (tMake c.C_Award (sp_Award_init K c) [] E0 (tCons (tVar 5) (tCons (tFld K (tVar 1) "day") (tCons (tFld K (tVar 1) "judge") (tCons (tFld K (tVar 1) "country") tNil))))) tNil)))) (tSeq (sFld K (tVar 0) (tC .non) "show") (tRet (tVar 3))))))))
/-- Book.may -/
def t_Book_may (K : PySem.W.Frag) (c : Cs) (E : XK) : TS :=
  (tSeq (tDrop (tCall (sp_refuse_if K c) [] E (tCons (tOrV (tNotV (tChain (rI0 fun i j => .bl (decide (i ≤ j))) (rI0 fun i j => .bl (decide (i ≤ j))) (tC (.int 0)) (tVar 1) (tC (.int 7)))) (tOp (rIn K true) (tVar 2) (tTup (tCons (tC (.int 0)) (tCons (tC (.int 1)) tNil))))) (tCons (tUn (rU fun i => .int (-i)) (tC (.int 1))) tNil)))) (tSeq (tAsg (tMeth c.C_Show "may_have" (sp_Show_may_have K c) [] E0 (tMeth c.C_Book "show_on" (sp_Book_show_on K c) [] E (tVar 0) tNil) (tCons (tVar 1) (tCons (tVar 2) tNil))) (gName 3)) (tRet (tOp rCat (tLst (tCons (tCB (rLenS K) (tCons (tVar 3) tNil)) tNil)) (tLc (iList K (tVar 3)) (gName 4) tYes (tFld K (tVar 4) "number") [4])))))
/-- Book.titles -/
def t_Book_titles (K : PySem.W.Frag) (c : Cs) (E : XK) : TS :=
  (tSeq (tDrop (tCall (sp_refuse_if K c) [] E (tCons (tNotV (tMeth c.C_Book "has_dog" (sp_Book_has_dog K c) [] E0 (tVar 0) (tCons (tVar 1) tNil))) (tCons (tUn (rU fun i => .int (-i)) (tC (.int 1))) tNil)))) (tSeq (tAsg (tOp (rIxL K) (tFld K (tVar 0) "dogs") (tVar 1)) (gName 2)) (tSeq (tAsg (tLst (tCons (tCall (sp_yes K c) [] E0 (tCons (tMeth c.C_Dog "is_champion" (sp_Dog_is_champion K c) [] E0 (tVar 2) tNil) tNil)) (tCons (tCall (sp_yes K c) [] E0 (tCons (tMeth c.C_Dog "is_young_champion" (sp_Dog_is_young_champion K c) [] E0 (tVar 2) tNil) tNil)) tNil))) (gName 3)) (tRet (tOp rCat (tVar 3) (tLst (tCons (tCall (sp_yes K c) [] E0 (tCons (tMeth c.C_Dog "is_old_champion" (sp_Dog_is_old_champion K c) [] E0 (tVar 2) tNil) tNil)) (tCons (tCall (sp_yes K c) [] E0 (tCons (tMeth c.C_Dog "is_international" (sp_Dog_is_international K c) [] E0 (tVar 2) tNil) tNil)) tNil))))))))
/-- Book.kept -/
def t_Book_kept (K : PySem.W.Frag) (c : Cs) (E : XK) : TS :=
  (tSeq (tDrop (tCall (sp_refuse_if K c) [] E (tCons (tNotV (tMeth c.C_Book "has_dog" (sp_Book_has_dog K c) [] E0 (tVar 0) (tCons (tVar 1) tNil))) (tCons (tUn (rU fun i => .int (-i)) (tC (.int 1))) tNil)))) (tSeq (tAsg (tFld K (tOp (rIxL K) (tFld K (tVar 0) "dogs") (tVar 1)) "awards") (gName 2)) (tSeq (tAsg (tLst (tCons (tCB (rLenS K) (tCons (tVar 2) tNil)) tNil)) (gName 3)) (tSeq (tFor (iList K (tVar 2)) (gName 4) (tDrop (tBM K "list" rExtend (tVar 3) (tCons (tLst (tCons (tFld K (tVar 4) "kind") (tCons (tFld K (tVar 4) "day") (tCons (tFld K (tVar 4) "judge") (tCons (tFld K (tVar 4) "country") tNil))))) tNil)))) (tRet (tVar 3))))))
/-- Book.now -/
def t_Book_now (K : PySem.W.Frag) (c : Cs) (E : XK) : TS :=
  (tSeq (tAsg (tMeth c.C_Book "show_on" (sp_Book_show_on K c) [] E (tVar 0) tNil) (gName 1)) (tSeq (tAsg (tLst (tCons (tCB (rLenS K) (tCons (tFld K (tVar 1) "entered") tNil)) tNil)) (gName 2)) (tSeq (tFor (iList K (tFld K (tVar 1) "entered")) (gTup K 2 (gCons (gName 3) (gCons (gName 4) gNil))) (tDrop (tBM K "list" rExtend (tVar 2) (tCons (tLst (tCons (tFld K (tVar 3) "number") (tCons (tVar 4) (tCons (tMeth c.C_Show "grade_of" (sp_Show_grade_of K c) [] E0 (tVar 1) (tCons (tVar 3) tNil)) tNil)))) tNil)))) (tRet (tVar 2)))))
/-- answer -/
def t_answer (K : PySem.W.Frag) (c : Cs) (E : XK) : TS :=
  (tSeq (tIfS (tTest (tOp rEq (tVar 1) (tC (.int 2)))) (tRet (tMeth c.C_Book "add_dog" (sp_Book_add_dog K c) [] E (tVar 0) (tCons (tVar 2) tNil))) tNext) (tSeq (tIfS (tTest (tOp rEq (tVar 1) (tC (.int 3)))) (tRet (tMeth c.C_Book "begin_show" (sp_Book_begin_show K c) [] E (tVar 0) (tCons (tVar 2) tNil))) tNext) (tSeq (tIfS (tTest (tOp rEq (tVar 1) (tC (.int 4)))) (tRet (tMeth c.C_Book "enter" (sp_Book_enter K c) [] E (tVar 0) (tCons (tOp (rIxL K) (tVar 2) (tC (.int 0))) (tCons (tOp (rIxL K) (tVar 2) (tC (.int 1))) tNil)))) tNext) (tSeq (tIfS (tTest (tOp rEq (tVar 1) (tC (.int 5)))) (tRet (tMeth c.C_Book "grade" (sp_Book_grade K c) [] E (tVar 0) (tCons (tOp (rIxL K) (tVar 2) (tC (.int 0))) (tCons (tOp (rIxL K) (tVar 2) (tC (.int 1))) tNil)))) tNext) (tSeq (tIfS (tTest (tOp rEq (tVar 1) (tC (.int 6)))) (tRet (tMeth c.C_Book "row" (sp_Book_row K c) [] E (tVar 0) (tCons (tOp (rIxL K) (tVar 2) (tC (.int 0))) (tCons (tOp (rIxL K) (tVar 2) (tC (.int 1))) (tCons (tVar 3) tNil))))) tNext) (tSeq (tIfS (tTest (tOp rEq (tVar 1) (tC (.int 7)))) (tRet (tMeth c.C_Book "award" (sp_Book_award K c) [] E (tVar 0) (tCons (tOp (rIxL K) (tVar 2) (tC (.int 0))) (tCons (tOp (rIxL K) (tVar 2) (tC (.int 1))) tNil)))) tNext) (tSeq (tIfS (tTest (tOp rEq (tVar 1) (tC (.int 8)))) (tRet (tMeth c.C_Book "close_show" (sp_Book_close_show K c) [] E (tVar 0) tNil)) tNext) (tSeq (tIfS (tTest (tOp rEq (tVar 1) (tC (.int 9)))) (tRet (tMeth c.C_Book "may" (sp_Book_may K c) [] E (tVar 0) (tCons (tOp (rIxL K) (tVar 2) (tC (.int 0))) (tCons (tOp (rIxL K) (tVar 2) (tC (.int 1))) tNil)))) tNext) (tSeq (tIfS (tTest (tOp rEq (tVar 1) (tC (.int 10)))) (tRet (tMeth c.C_Book "titles" (sp_Book_titles K c) [] E (tVar 0) (tCons (tOp (rIxL K) (tVar 2) (tC (.int 0))) tNil))) tNext) (tSeq (tIfS (tTest (tOp rEq (tVar 1) (tC (.int 11)))) (tRet (tMeth c.C_Book "kept" (sp_Book_kept K c) [] E (tVar 0) (tCons (tOp (rIxL K) (tVar 2) (tC (.int 0))) tNil))) tNext) (tRet (tMeth c.C_Book "now" (sp_Book_now K c) [] E (tVar 0) tNil))))))))))))
/-- read_call -/
def t_read_call (K : PySem.W.Frag) (c : Cs) : TS :=
  (tSeq (tAsg (tOp (rIxL K) (tVar 0) (tVar 1)) (gName 2)) (tSeq (tAsg (tOp (rIxT K) (tC (.ref c.a_FORMS)) (tOp (rI0 fun i j => .int (i - j)) (tVar 2) (tC (.int 1)))) (gTup K 2 (gCons (gName 5) (gCons (gName 6) gNil)))) (tSeq (tAsg (tSl (rSlL K) (tVar 0) (tPart (tOp (rI0 fun i j => .int (i + j)) (tVar 1) (tC (.int 1)))) (tPart (tOp (rI0 fun i j => .int (i + j)) (tOp (rI0 fun i j => .int (i + j)) (tVar 1) (tC (.int 1))) (tVar 5)))) (gName 3)) (tSeq (tAsg (tOp (rI0 fun i j => .int (i + j)) (tOp (rI0 fun i j => .int (i + j)) (tVar 1) (tC (.int 1))) (tVar 5)) (gName 1)) (tSeq (tAsg (tLst tNil) (gName 4)) (tSeq (tIfS (tTest (tOp (rI0 fun i j => .bl (decide (j < i))) (tVar 6) (tC (.int 0)))) (tSeq (tAsg (tOp (rIxL K) (tVar 0) (tVar 1)) (gName 7)) (tSeq (tAsg (tSl (rSlL K) (tVar 0) (tPart (tOp (rI0 fun i j => .int (i + j)) (tVar 1) (tC (.int 1)))) (tPart (tOp (rI0 fun i j => .int (i + j)) (tOp (rI0 fun i j => .int (i + j)) (tVar 1) (tC (.int 1))) (tVar 7)))) (gName 4)) (tAsg (tOp (rI0 fun i j => .int (i + j)) (tOp (rI0 fun i j => .int (i + j)) (tVar 1) (tC (.int 1))) (tVar 7)) (gName 1)))) tNext) (tRet (tTup (tCons (tVar 2) (tCons (tVar 3) (tCons (tVar 4) (tCons (tVar 1) tNil))))))))))))
/-- answers -/
def t_answers (K : PySem.W.Frag) (c : Cs) : TS :=
  (tSeq (tAsg (tMake c.C_Book (sp_Book_init K c) [] E0 tNil) (gName 1)) (tSeq (tAsg (tLst tNil) (gName 2)) (tSeq (tAsg (tC (.int 0)) (gName 3)) (tSeq (tWhile (tTest (tOp (rI0 fun i j => .bl (decide (i < j))) (tVar 3) (tCB (rLenS K) (tCons (tVar 0) tNil)))) (tSeq (tAsg (tCall (sp_read_call K c) [] E0 (tCons (tVar 0) (tCons (tVar 3) tNil))) (gTup K 4 (gCons (gName 5) (gCons (gName 6) (gCons (gName 7) (gCons (gName 3) gNil)))))) (tSeq (fun D σ H => (fun W => (tIfS (tTest (tOp rEq (tVar 5) (tC (.int 1)))) (tSeq (tAsg (tMake c.C_Book (sp_Book_init K c) [] E0 tNil) (gName 1)) (tAsg (tLst (tCons (tC (.int 0)) tNil)) (gName 8))) (tAsg (tCallS (sp_answer K c) (WE W) (tCons (tVar 1) (tCons (tVar 5) (tCons (tVar 6) (tCons (tVar 7) tNil))))) (gName 8)))) (wAs K (.ref c.C_Refusal) 4 (fun a cls d => (tAsg (tLst (tCons (tXf a cls d c.C_Refusal "number" (tVar 4)) tNil)) (gName 8))) (fun _ _ _ _ => False) D) D σ H) (tSeq (tDrop (tBM K "list" rAppend (tVar 2) (tCons (tCB (rLenS K) (tCons (tVar 8) tNil)) tNil))) (tDrop (tBM K "list" rExtend (tVar 2) (tCons (tVar 8) tNil))))))) (tRet (tVar 2))))))
end Ds

/-! Printed by gen.py: each field, each method by its name. -/
namespace Ds
open PySem PySem.Spec PyProof.Rows L2 Evl

theorem lk_Award_kind (a : Kg73.Award) : (awF a).lookup ("kind" : Str) = some (.int (a.kind : Nat)) := by kernel_rfl
theorem lk_Award_day (a : Kg73.Award) : (awF a).lookup ("day" : Str) = some (.int (a.day : Nat)) := by kernel_rfl
theorem lk_Award_judge (a : Kg73.Award) : (awF a).lookup ("judge" : Str) = some (.int (a.judge : Nat)) := by kernel_rfl
theorem lk_Award_country (a : Kg73.Award) : (awF a).lookup ("country" : Str) = some (.int (a.country : Nat)) := by kernel_rfl
theorem lk_Dog_number (i : Nat) (d : Kg73.Dog) (aw : Addr) : (dogF i d aw).lookup ("number" : Str) = some (.int i) := by kernel_rfl
theorem lk_Dog_sex (i : Nat) (d : Kg73.Dog) (aw : Addr) : (dogF i d aw).lookup ("sex" : Str) = some (.int (d.sex : Nat)) := by kernel_rfl
theorem lk_Dog_born (i : Nat) (d : Kg73.Dog) (aw : Addr) : (dogF i d aw).lookup ("born" : Str) = some (.int (d.born : Nat)) := by kernel_rfl
theorem lk_Dog_worked (i : Nat) (d : Kg73.Dog) (aw : Addr) : (dogF i d aw).lookup ("worked" : Str) = some (.bl d.worked) := by kernel_rfl
theorem lk_Dog_awards (i : Nat) (d : Kg73.Dog) (aw : Addr) : (dogF i d aw).lookup ("awards" : Str) = some (.ref aw) := by kernel_rfl
theorem nk_Dog_has_enough (i : Nat) (d : Kg73.Dog) (aw : Addr) : (dogF i d aw).lookup ("has_enough" : Str) = none := by kernel_rfl
theorem nk_Dog_is_champion (i : Nat) (d : Kg73.Dog) (aw : Addr) : (dogF i d aw).lookup ("is_champion" : Str) = none := by kernel_rfl
theorem nk_Dog_is_young_champion (i : Nat) (d : Kg73.Dog) (aw : Addr) : (dogF i d aw).lookup ("is_young_champion" : Str) = none := by kernel_rfl
theorem nk_Dog_is_old_champion (i : Nat) (d : Kg73.Dog) (aw : Addr) : (dogF i d aw).lookup ("is_old_champion" : Str) = none := by kernel_rfl
theorem nk_Dog_is_international (i : Nat) (d : Kg73.Dog) (aw : Addr) : (dogF i d aw).lookup ("is_international" : Str) = none := by kernel_rfl
theorem lk_Show_day (w : Kg73.Show) (le dg dr lg : Addr) : (showF w le dg dr lg).lookup ("day" : Str) = some (.int (w.day : Nat)) := by kernel_rfl
theorem lk_Show_judge (w : Kg73.Show) (le dg dr lg : Addr) : (showF w le dg dr lg).lookup ("judge" : Str) = some (.int (w.judge : Nat)) := by kernel_rfl
theorem lk_Show_country (w : Kg73.Show) (le dg dr lg : Addr) : (showF w le dg dr lg).lookup ("country" : Str) = some (.int (w.country : Nat)) := by kernel_rfl
theorem lk_Show_international (w : Kg73.Show) (le dg dr lg : Addr) : (showF w le dg dr lg).lookup ("international" : Str) = some (.bl w.wide) := by kernel_rfl
theorem lk_Show_entered (w : Kg73.Show) (le dg dr lg : Addr) : (showF w le dg dr lg).lookup ("entered" : Str) = some (.ref le) := by kernel_rfl
theorem lk_Show_grades (w : Kg73.Show) (le dg dr lg : Addr) : (showF w le dg dr lg).lookup ("grades" : Str) = some (.ref dg) := by kernel_rfl
theorem lk_Show_rows (w : Kg73.Show) (le dg dr lg : Addr) : (showF w le dg dr lg).lookup ("rows" : Str) = some (.ref dr) := by kernel_rfl
theorem lk_Show_given (w : Kg73.Show) (le dg dr lg : Addr) : (showF w le dg dr lg).lookup ("given" : Str) = some (.ref lg) := by kernel_rfl
theorem nk_Show_class_of (w : Kg73.Show) (le dg dr lg : Addr) : (showF w le dg dr lg).lookup ("class_of" : Str) = none := by kernel_rfl
theorem nk_Show_grade_of (w : Kg73.Show) (le dg dr lg : Addr) : (showF w le dg dr lg).lookup ("grade_of" : Str) = none := by kernel_rfl
theorem nk_Show_placed (w : Kg73.Show) (le dg dr lg : Addr) : (showF w le dg dr lg).lookup ("placed" : Str) = none := by kernel_rfl
theorem nk_Show_firsts (w : Kg73.Show) (le dg dr lg : Addr) : (showF w le dg dr lg).lookup ("firsts" : Str) = none := by kernel_rfl
theorem nk_Show_holder (w : Kg73.Show) (le dg dr lg : Addr) : (showF w le dg dr lg).lookup ("holder" : Str) = none := by kernel_rfl
theorem nk_Show_is_given (w : Kg73.Show) (le dg dr lg : Addr) : (showF w le dg dr lg).lookup ("is_given" : Str) = none := by kernel_rfl
theorem nk_Show_may_have (w : Kg73.Show) (le dg dr lg : Addr) : (showF w le dg dr lg).lookup ("may_have" : Str) = none := by kernel_rfl
theorem nk_Show_next_ones (w : Kg73.Show) (le dg dr lg : Addr) : (showF w le dg dr lg).lookup ("next_ones" : Str) = none := by kernel_rfl
theorem nk_Show_bests (w : Kg73.Show) (le dg dr lg : Addr) : (showF w le dg dr lg).lookup ("bests" : Str) = none := by kernel_rfl
theorem nk_Show_counts_as (w : Kg73.Show) (le dg dr lg : Addr) : (showF w le dg dr lg).lookup ("counts_as" : Str) = none := by kernel_rfl
theorem nk_Show_kept_awards (w : Kg73.Show) (le dg dr lg : Addr) : (showF w le dg dr lg).lookup ("kept_awards" : Str) = none := by kernel_rfl
theorem lk_Book_dogs (ld : Addr) (sh : V) (last : Int) : (bookF ld sh last).lookup ("dogs" : Str) = some (.ref ld) := by kernel_rfl
theorem lk_Book_show (ld : Addr) (sh : V) (last : Int) : (bookF ld sh last).lookup ("show" : Str) = some (sh) := by kernel_rfl
theorem lk_Book_last_day (ld : Addr) (sh : V) (last : Int) : (bookF ld sh last).lookup ("last_day" : Str) = some (.int last) := by kernel_rfl
theorem nk_Book_has_dog (ld : Addr) (sh : V) (last : Int) : (bookF ld sh last).lookup ("has_dog" : Str) = none := by kernel_rfl
theorem nk_Book_show_on (ld : Addr) (sh : V) (last : Int) : (bookF ld sh last).lookup ("show_on" : Str) = none := by kernel_rfl
theorem nk_Book_add_dog (ld : Addr) (sh : V) (last : Int) : (bookF ld sh last).lookup ("add_dog" : Str) = none := by kernel_rfl
theorem nk_Book_begin_show (ld : Addr) (sh : V) (last : Int) : (bookF ld sh last).lookup ("begin_show" : Str) = none := by kernel_rfl
theorem nk_Book_enter (ld : Addr) (sh : V) (last : Int) : (bookF ld sh last).lookup ("enter" : Str) = none := by kernel_rfl
theorem nk_Book_grade (ld : Addr) (sh : V) (last : Int) : (bookF ld sh last).lookup ("grade" : Str) = none := by kernel_rfl
theorem nk_Book_row (ld : Addr) (sh : V) (last : Int) : (bookF ld sh last).lookup ("row" : Str) = none := by kernel_rfl
theorem nk_Book_award (ld : Addr) (sh : V) (last : Int) : (bookF ld sh last).lookup ("award" : Str) = none := by kernel_rfl
theorem nk_Book_close_show (ld : Addr) (sh : V) (last : Int) : (bookF ld sh last).lookup ("close_show" : Str) = none := by kernel_rfl
theorem nk_Book_may (ld : Addr) (sh : V) (last : Int) : (bookF ld sh last).lookup ("may" : Str) = none := by kernel_rfl
theorem nk_Book_titles (ld : Addr) (sh : V) (last : Int) : (bookF ld sh last).lookup ("titles" : Str) = none := by kernel_rfl
theorem nk_Book_kept (ld : Addr) (sh : V) (last : Int) : (bookF ld sh last).lookup ("kept" : Str) = none := by kernel_rfl
theorem nk_Book_now (ld : Addr) (sh : V) (last : Int) : (bookF ld sh last).lookup ("now" : Str) = none := by kernel_rfl
theorem put_show (ld : Addr) (v u : V) (n : Int) : putF "show" u (bookF ld v n) = bookF ld u n := by kernel_rfl
theorem put_last (ld : Addr) (v : V) (n m : Int) : putF "last_day" (.int m) (bookF ld v n) = bookF ld v m := by kernel_rfl
end Ds

/-! Dogs, classes, refusals: each promise gives its reading. -/
namespace Ds
open PySem PySem.Spec PyProof.Rows L2 Evl

/-! ### the plain law of titles: items once, first and last day -/
theorem fold_once : ∀ (l acc : List Int), l.foldl step_dedup acc = acc ++ (l.filter fun x => decide (x ∉ acc)).eraseDups
  | [], acc => by simp
  | a :: l, acc => by
    have st : step_dedup acc a = if a ∈ acc then acc else acc ++ [a] := by
      unfold step_dedup
      by_cases h : a ∈ acc
      · rw [if_pos h, if_pos (List.any_eq_true.mpr ⟨a, h, by simp⟩)]
      · rw [if_neg h, if_neg]
        intro q
        obtain ⟨y, hy, e⟩ := List.any_eq_true.mp q
        have e' : y = a := by simpa using e
        exact h (e' ▸ hy)
    rw [List.foldl_cons, fold_once l, st]
    by_cases h : a ∈ acc
    · simp [h]
    · rw [if_neg h, List.filter_cons, if_pos (by simp [h]), List.eraseDups_cons, List.filter_filter, List.append_assoc, List.singleton_append]
      refine congrArg (fun q => acc ++ a :: q) (congrArg List.eraseDups (List.filter_congr fun x _ => ?_))
      by_cases q : x = a <;> simp [q]
theorem range_get (l : List Int) : (List.range l.length).map (fun i => l.getD i 0) = l := by
  refine List.ext_getElem (by simp) fun i h1 h2 => ?_
  rw [List.getElem_map, List.getElem_range, List.getD_eq_getElem?_getD, List.getElem?_eq_getElem h2]
  rfl
theorem distinct_eq (l : List Int) : distinct l = l.eraseDups := by
  unfold distinct firstMet
  rw [range_get, fold_once, List.nil_append, List.filter_eq_self.mpr (fun x _ => by simp)]
theorem once_len : ∀ (l acc : List Int), (l.foldl step_dedup acc).length ≤ acc.length + l.length ∧ ((l.foldl step_dedup acc).length = acc.length + l.length ↔ (∀ x ∈ l, x ∉ acc) ∧ l.Nodup)
  | [], acc => by simp
  | a :: l, acc => by
    rw [List.foldl_cons]
    have st : step_dedup acc a = if a ∈ acc then acc else acc ++ [a] := by
      unfold step_dedup
      by_cases h : a ∈ acc
      · rw [if_pos h, if_pos (List.any_eq_true.mpr ⟨a, h, by simp⟩)]
      · rw [if_neg h, if_neg]
        intro q
        obtain ⟨y, hy, e⟩ := List.any_eq_true.mp q
        have e' : y = a := by simpa using e
        exact h (e' ▸ hy)
    rw [st]
    by_cases h : a ∈ acc
    · rw [if_pos h]
      obtain ⟨i1, _⟩ := once_len l acc
      refine ⟨by rw [List.length_cons]; omega, fun q => ?_, fun q => absurd h (q.1 a List.mem_cons_self)⟩
      rw [List.length_cons] at q
      omega
    · rw [if_neg h]
      obtain ⟨i1, i2⟩ := once_len l (acc ++ [a])
      rw [List.length_append, List.length_singleton] at i1 i2
      refine ⟨by rw [List.length_cons]; omega, ?_⟩
      rw [List.length_cons, show acc.length + (l.length + 1) = acc.length + 1 + l.length from by omega, i2, List.nodup_cons]
      constructor
      · rintro ⟨q1, q2⟩
        refine ⟨fun x hx => ?_, fun q => q1 a q (by simp), q2⟩
        rcases List.mem_cons.mp hx with e | hx
        · rw [e]; exact h
        · exact fun z => q1 x hx (List.mem_append_left _ z)
      · rintro ⟨q1, q2, q3⟩
        refine ⟨fun x hx z => ?_, q3⟩
        rcases List.mem_append.mp z with z | z
        · exact q1 x (List.mem_cons_of_mem _ hx) z
        · have e : x = a := by simpa using z
          exact q2 (e ▸ hx)
theorem distinct_lt (l : List Int) : decide (((distinct l).length : Int) < (l.length : Int)) = !decide l.Nodup := by
  have e : distinct l = l.foldl step_dedup [] := by
    unfold distinct firstMet
    rw [range_get]
  obtain ⟨h1, h2⟩ := once_len l []
  rw [← e] at h1 h2
  simp only [List.length_nil, Nat.zero_add] at h1 h2
  by_cases h : l.Nodup
  · have := h2.mpr ⟨fun x _ => by simp, h⟩
    rw [decide_eq_true h, decide_eq_false (by omega)]
    rfl
  · have : ¬ (distinct l).length = l.length := fun q => h (h2.mp q).2
    rw [decide_eq_false h, decide_eq_true (by omega)]
    rfl
theorem once_map (f : Nat → Int) (hf : ∀ a b, f a = f b → a = b) : ∀ (n : Nat) (l : List Nat), l.length ≤ n → (l.map f).eraseDups = l.eraseDups.map f
  | _, [], _ => by simp
  | 0, a :: l, h => by simp at h
  | n + 1, a :: l, h => by
    rw [List.map_cons, List.eraseDups_cons, List.eraseDups_cons, List.map_cons]
    have e : (l.map f).filter (fun b => !b == f a) = (l.filter fun b => !b == a).map f := by
      rw [List.filter_map]
      refine congrArg (List.map f) (List.filter_congr fun x _ => ?_)
      by_cases q : x = a
      · simp [q]
      · have q' : (f x == f a) = false := by simpa using fun z => q (hf _ _ z)
        have q2 : (x == a) = false := by simpa using q
        show (!f x == f a) = (!x == a)
        rw [q', q2]
    rw [e, once_map f hf n]
    have := List.length_filter_le (fun b => !b == a) l
    rw [List.length_cons] at h
    omega
theorem distinct_nats (l : List Nat) : (distinct (l.map fun i : Nat => (i : Int))).length = Kg73.count l := by
  rw [distinct_eq, once_map (fun i : Nat => (i : Int)) (fun a b h => Int.ofNat_inj.mp h) l.length l (Nat.le_refl _), List.length_map]
  rfl
theorem max_of : ∀ (l : List Nat) (a : Nat), a ≤ l.foldl max a ∧ (∀ x ∈ l, x ≤ l.foldl max a) ∧ (l.foldl max a = a ∨ l.foldl max a ∈ l)
  | [], a => by simp
  | b :: l, a => by
    obtain ⟨h1, h2, h3⟩ := max_of l (max a b)
    rw [List.foldl_cons]
    refine ⟨by omega, fun x hx => ?_, ?_⟩
    · rcases List.mem_cons.mp hx with rfl | hx
      · omega
      · exact h2 x hx
    · rcases h3 with h3 | h3
      · rw [h3]
        by_cases q : a ≤ b
        · right; rw [Nat.max_eq_right q]; exact List.mem_cons_self
        · left; omega
      · right; exact List.mem_cons_of_mem _ h3
theorem min_of : ∀ (l : List Nat) (a : Nat), l.foldl min a ≤ a ∧ (∀ x ∈ l, l.foldl min a ≤ x) ∧ (l.foldl min a = a ∨ l.foldl min a ∈ l)
  | [], a => by simp
  | b :: l, a => by
    obtain ⟨h1, h2, h3⟩ := min_of l (min a b)
    rw [List.foldl_cons]
    refine ⟨by omega, fun x hx => ?_, ?_⟩
    · rcases List.mem_cons.mp hx with rfl | hx
      · omega
      · exact h2 x hx
    · rcases h3 with h3 | h3
      · rw [h3]
        by_cases q : a ≤ b
        · left; omega
        · right; rw [Nat.min_eq_right (by omega)]; exact List.mem_cons_self
      · right; exact List.mem_cons_of_mem _ h3
theorem max_is {l : List Nat} (hl : l ≠ []) {m : Int} (h1 : m ∈ l.map fun i : Nat => (i : Int)) (h2 : ∀ y, y ∈ (l.map fun i : Nat => (i : Int)) → y ≤ m) : m = (l.foldl max 0 : Nat) := by
  obtain ⟨a1, a2, a3⟩ := max_of l 0
  obtain ⟨k, hk, rfl⟩ := List.mem_map.mp h1
  have b1 := a2 k hk
  have b2 : ((l.foldl max 0 : Nat) : Int) ≤ k := by
    rcases a3 with a3 | a3
    · omega
    · exact h2 _ (List.mem_map.mpr ⟨_, a3, rfl⟩)
  omega
theorem min_is {l : List Nat} (hl : l ≠ []) {m : Int} (h1 : m ∈ l.map fun i : Nat => (i : Int)) (h2 : ∀ y, y ∈ (l.map fun i : Nat => (i : Int)) → m ≤ y) : m = (l.foldl min (l.headD 0) : Nat) := by
  obtain ⟨a1, a2, a3⟩ := min_of l (l.headD 0)
  obtain ⟨k, hk, rfl⟩ := List.mem_map.mp h1
  have b1 := a2 k hk
  have hd : l.headD 0 ∈ l := by
    cases l with
    | nil => exact absurd rfl hl
    | cons a l => exact List.mem_cons_self
  have mem : l.foldl min (l.headD 0) ∈ l := by
    rcases a3 with a3 | a3
    · rw [a3]; exact hd
    · exact a3
  have b2 := h2 _ (List.mem_map.mpr ⟨_, mem, rfl⟩)
  omega
theorem min_le_max {l : List Nat} (hl : l ≠ []) : l.foldl min (l.headD 0) ≤ l.foldl max 0 := by
  cases l with
  | nil => exact absurd rfl hl
  | cons a l =>
    have h1 := (min_of (a :: l) a).1
    have h2 := (max_of (a :: l) 0).2.1 a List.mem_cons_self
    exact Nat.le_trans h1 h2

theorem QV {Q : VK} {v v' : V} {H : Hp} (q : Q v H) (e : v = v') : Q v' H := e ▸ q

section
variable {K : PySem.W.Frag} {mg : Str → Option Value} {c : Cs} {vs : List V} {H : Hp} {Q : VK} {E : XK}
theorem pure_Award_init (T : Txt K mg c) (vs : List V) (H : Hp) (Q : VK) (E : XK) (h : sp_Award_init K c vs H Q E) : t_Award_init K c { nx := fun _ H' => Q .non H', rt := Q } (start N_Award_init vs) H := by
  obtain ⟨p, dx, k, d, j, co, rfl, hp, q⟩ := h
  refine ⟨_, rfl, _, rfl, p, _, dx, [], rfl, hp, T.cl_Award, T.n_Award_kind, (by show 0 < 1000; decide), ?_⟩
  refine ⟨_, rfl, _, rfl, p, _, dx, _, rfl, upd_same, T.cl_Award, T.n_Award_day, (by show 1 < 1000; decide), ?_⟩
  refine ⟨_, rfl, _, rfl, p, _, dx, _, rfl, upd_same, T.cl_Award, T.n_Award_judge, (by show 2 < 1000; decide), ?_⟩
  refine ⟨_, rfl, _, rfl, p, _, dx, _, rfl, upd_same, T.cl_Award, T.n_Award_country, (by show 3 < 1000; decide), ?_⟩
  rw [upd_upd, upd_upd, upd_upd]
  exact q
theorem pure_Dog_init (T : Txt K mg c) (vs : List V) (H : Hp) (Q : VK) (E : XK) (h : sp_Dog_init K c vs H Q E) : t_Dog_init K c { nx := fun _ H' => Q .non H', rt := Q } (start N_Dog_init vs) H := by
  obtain ⟨p, dx, i, x, b, w, rfl, hp, q⟩ := h
  refine ⟨_, rfl, _, rfl, p, _, dx, [], rfl, hp, T.cl_Dog, T.n_Dog_number, (by show 0 < 1000; decide), ?_⟩
  refine ⟨_, rfl, _, rfl, p, _, dx, _, rfl, upd_same, T.cl_Dog, T.n_Dog_sex, (by show 1 < 1000; decide), ?_⟩
  refine ⟨_, rfl, _, rfl, p, _, dx, _, rfl, upd_same, T.cl_Dog, T.n_Dog_born, (by show 2 < 1000; decide), ?_⟩
  refine ⟨_, rfl, _, rfl, p, _, dx, _, rfl, upd_same, T.cl_Dog, T.n_Dog_worked, (by show 3 < 1000; decide), ?_⟩
  refine ⟨(by show 0 ≤ sizeLine; decide), fun l hl => ?_⟩
  have pl : l ≠ p := fun z => by rw [z, upd_same] at hl; cases hl
  refine ⟨_, rfl, p, _, dx, _, rfl, (upd_ne (Ne.symm pl)).trans upd_same, T.cl_Dog, T.n_Dog_awards, (by show 4 < 1000; decide), ?_⟩
  rw [upd_upd, upd_upd, upd_upd, upd_ne pl] at hl
  refine q l _ hl pl (fun a o e ha => ?_) ?_ ?_
  · have al : a ≠ l := ne_of_none e hl
    rw [upd_ne ha, upd_ne al, upd_ne ha, upd_ne ha, upd_ne ha, upd_ne ha]
    exact e
  · rw [upd_ne pl, upd_same]
  · rw [upd_same]
    rfl
theorem pure_Book_init (T : Txt K mg c) (vs : List V) (H : Hp) (Q : VK) (E : XK) (h : sp_Book_init K c vs H Q E) : t_Book_init K c { nx := fun _ H' => Q .non H', rt := Q } (start N_Book_init vs) H := by
  obtain ⟨p, dx, rfl, hp, q⟩ := h
  refine ⟨(by show 0 ≤ sizeLine; decide), fun l hl => ?_⟩
  have pl : l ≠ p := fun z => by rw [z, hp] at hl; cases hl
  refine ⟨_, rfl, p, _, dx, [], rfl, (upd_ne (Ne.symm pl)).trans hp, T.cl_Book, T.n_Book_dogs, (by show 0 < 1000; decide), ?_⟩
  refine ⟨_, rfl, p, _, dx, _, rfl, upd_same, T.cl_Book, T.n_Book_show, (by show 1 < 1000; decide), ?_⟩
  refine ⟨_, rfl, p, _, dx, _, rfl, upd_same, T.cl_Book, T.n_Book_last_day, (by show 2 < 1000; decide), ?_⟩
  refine q l _ hl pl (fun a o e ha => ?_) ?_ ?_
  · rw [upd_ne ha, upd_ne ha, upd_ne ha, upd_ne (ne_of_none e hl)]
    exact e
  · rw [upd_ne pl, upd_ne pl, upd_ne pl, upd_same]
  · rw [upd_same]
    rfl
theorem pure_Show_init (T : Txt K mg c) (vs : List V) (H : Hp) (Q : VK) (E : XK) (h : sp_Show_init K c vs H Q E) : t_Show_init K c { nx := fun _ H' => Q .non H', rt := Q } (start N_Show_init vs) H := by
  obtain ⟨p, dx, d, j, co, w, rfl, hp, q⟩ := h
  refine ⟨_, rfl, _, rfl, p, _, dx, [], rfl, hp, T.cl_Show, T.n_Show_day, (by show 0 < 1000; decide), ?_⟩
  refine ⟨_, rfl, _, rfl, p, _, dx, _, rfl, upd_same, T.cl_Show, T.n_Show_judge, (by show 1 < 1000; decide), ?_⟩
  refine ⟨_, rfl, _, rfl, p, _, dx, _, rfl, upd_same, T.cl_Show, T.n_Show_country, (by show 2 < 1000; decide), ?_⟩
  refine ⟨_, rfl, _, rfl, p, _, dx, _, rfl, upd_same, T.cl_Show, T.n_Show_international, (by show 3 < 1000; decide), ?_⟩
  rw [upd_upd, upd_upd, upd_upd]
  refine ⟨(by show 0 ≤ sizeLine; decide), fun le hle => ?_⟩
  have p1 : le ≠ p := fun z => by rw [z, upd_same] at hle; cases hle
  refine ⟨_, rfl, p, _, dx, _, rfl, (upd_ne (Ne.symm p1)).trans upd_same, T.cl_Show, T.n_Show_entered, (by show 4 < 1000; decide), fun dg hdg => ?_⟩
  have p2 : dg ≠ p := fun z => by rw [z, upd_same] at hdg; cases hdg
  refine ⟨_, rfl, p, _, dx, _, rfl, (upd_ne (Ne.symm p2)).trans upd_same, T.cl_Show, T.n_Show_grades, (by show 5 < 1000; decide), fun dr hdr => ?_⟩
  have p3 : dr ≠ p := fun z => by rw [z, upd_same] at hdr; cases hdr
  refine ⟨_, rfl, p, _, dx, _, rfl, (upd_ne (Ne.symm p3)).trans upd_same, T.cl_Show, T.n_Show_rows, (by show 6 < 1000; decide), ?_⟩
  refine ⟨(by show 0 ≤ sizeLine; decide), fun lg hlg => ?_⟩
  have p4 : lg ≠ p := fun z => by rw [z, upd_same] at hlg; cases hlg
  refine ⟨_, rfl, p, _, dx, _, rfl, (upd_ne (Ne.symm p4)).trans upd_same, T.cl_Show, T.n_Show_given, (by show 7 < 1000; decide), ?_⟩
  rw [upd_ne p4] at hlg
  have n43 : lg ≠ dr := fun z => by rw [z, upd_same] at hlg; cases hlg
  rw [upd_ne n43, upd_ne p4] at hlg
  have n42 : lg ≠ dg := fun z => by rw [z, upd_same] at hlg; cases hlg
  rw [upd_ne n42, upd_ne p4] at hlg
  have n41 : lg ≠ le := fun z => by rw [z, upd_same] at hlg; cases hlg
  rw [upd_ne n41, upd_ne p4] at hlg
  rw [upd_ne p3] at hdr
  have n32 : dr ≠ dg := fun z => by rw [z, upd_same] at hdr; cases hdr
  rw [upd_ne n32, upd_ne p3] at hdr
  have n31 : dr ≠ le := fun z => by rw [z, upd_same] at hdr; cases hdr
  rw [upd_ne n31, upd_ne p3] at hdr
  rw [upd_ne p2] at hdg
  have n21 : dg ≠ le := fun z => by rw [z, upd_same] at hdg; cases hdg
  rw [upd_ne n21, upd_ne p2] at hdg
  rw [upd_ne p1] at hle
  refine q le dg dr lg _ hle hdg hdr hlg ?_ ?_ (fun a o e ha => ?_) ?_ ?_ ?_ ?_ ?_
  · simp [Ne.symm n21, Ne.symm n31, Ne.symm n41, Ne.symm n32, Ne.symm n42, Ne.symm n43]
  · simp [Ne.symm p1, Ne.symm p2, Ne.symm p3, Ne.symm p4]
  · rw [upd_ne ha, upd_ne (ne_of_none e hlg), upd_ne ha, upd_ne (ne_of_none e hdr), upd_ne ha, upd_ne (ne_of_none e hdg), upd_ne ha, upd_ne (ne_of_none e hle), upd_ne ha]
    exact e
  · rw [upd_ne p1, upd_ne (Ne.symm n41), upd_ne p1, upd_ne (Ne.symm n31), upd_ne p1, upd_ne (Ne.symm n21), upd_ne p1, upd_same]
  · rw [upd_ne p2, upd_ne (Ne.symm n42), upd_ne p2, upd_ne (Ne.symm n32), upd_ne p2, upd_same]
  · rw [upd_ne p3, upd_ne (Ne.symm n43), upd_ne p3, upd_same]
  · rw [upd_ne p4, upd_same]
  · rw [upd_same]
    rfl
theorem pure_Refusal_init (T : Txt K mg c) (vs : List V) (H : Hp) (Q : VK) (E : XK) (h : sp_Refusal_init K c vs H Q E) : t_Refusal_init K c { nx := fun _ H' => Q .non H', rt := Q } (start N_Refusal_init vs) H := by
  obtain ⟨a, y, rfl, ha, q⟩ := h
  refine ⟨_, rfl, a, c.C_Refusal, [.str (Str.ofString "refused")], rfl, (by show 1 ≤ 1000; decide), T.oex, ha, ?_⟩
  refine ⟨_, rfl, _, rfl, a, c.C_Refusal, rfl, T.oex, T.nNum, .inl ⟨ha, fun d hd da => ?_⟩⟩
  exact q d hd da
theorem pure_refuse_if (T : Txt K mg c) (vs : List V) (H : Hp) (Q : VK) (E : XK) (h : sp_refuse_if K c vs H Q E) : t_refuse_if K c E { nx := fun _ H' => Q .non H', rt := Q } (start N_refuse_if vs) H := by
  obtain ⟨b, v, rfl, k1, k2⟩ := h
  refine ⟨_, rfl, b, rfl, ?_⟩
  cases b with
  | true =>
    rw [if_pos rfl]
    refine ⟨_, rfl, (by show 1 ≤ 1000; decide), fun a ha => ?_⟩
    refine ⟨a, v, rfl, upd_same, fun d hd hda => ⟨rfl, d, _, upd_same, (upd_ne hda).trans upd_same, ?_, k1 rfl d _ (fun q o e => ?_) upd_same⟩⟩
    · rw [upd_ne hda] at hd
      exact hd
    · have dn : H d = none := by rw [upd_ne hda] at hd; exact hd
      have qa : q ≠ a := ne_of_none e ha
      have qd : q ≠ d := ne_of_none e dn
      rw [upd_ne qd, del_ne qa, upd_ne qa, upd_ne qd, upd_ne qa]
      exact e
  | false =>
    rw [if_neg Bool.false_ne_true]
    exact k2 rfl
theorem pure_is_class (T : Txt K mg c) (vs : List V) (H : Hp) (Q : VK) (E : XK) (h : sp_is_class K c vs H Q E) : t_is_class K c { nx := fun _ H' => Q .non H', rt := Q } (start N_is_class vs) H := by
  obtain ⟨z, ⟨k, rfl, rfl⟩, q⟩ := h
  obtain ⟨l, hl, hs, _⟩ := T.q_AGES
  unfold t_is_class
  refine s_ret (ev_chain ev_c (ev_var rfl) (i := 0) (j := k) (k := 7) ?_) fun H1 e1 => QV (q H1 e1) ?_
  · intro H1 e Q q
    refine ⟨_, _, rfl, .inr (hs H1), ?_⟩
    rw [List.length_map, hl]
    exact q H1 (Ex.refl H1)
  · show V.bl _ = V.bl _
    unfold Kg73.within
    congr 2
    by_cases h : k ≤ 6
    · rw [decide_eq_true h, decide_eq_true (by omega)]
    · rw [decide_eq_false h, decide_eq_false (by omega)]
theorem pure_yes (T : Txt K mg c) (vs : List V) (H : Hp) (Q : VK) (E : XK) (h : sp_yes K c vs H Q E) : t_yes K c { nx := fun _ H' => Q .non H', rt := Q } (start N_yes vs) H := by
  obtain ⟨z, ⟨b, rfl, rfl⟩, q⟩ := h
  unfold t_yes
  refine q_when (et_B (ev_var rfl)) (fun hb H1 e1 => s_ret ev_c fun H2 e2 => ?_) (fun hb H1 e1 => s_ret ev_c fun H2 e2 => ?_)
  · subst hb
    exact q H2 (e1.trans e2)
  · subst hb
    exact q H2 (e1.trans e2)
theorem pure_is_of_age (T : Txt K mg c) (vs : List V) (H : Hp) (Q : VK) (E : XK) (h : sp_is_of_age K c vs H Q E) : t_is_of_age K c { nx := fun _ H' => Q .non H', rt := Q } (start N_is_of_age vs) H := by
  obtain ⟨z, ⟨k, age, hk, rfl, rfl⟩, q⟩ := h
  obtain ⟨l, hl, hs, hp⟩ := T.q_AGES
  obtain ⟨p, hpk⟩ : ∃ p, l[k]? = some p := ⟨l[k]'(by omega), List.getElem?_eq_getElem (by omega)⟩
  obtain ⟨x, y, hxy, _⟩ := hp H k p hpk
  have hq1 : ∀ H1, SqT K H1 p [.int x, .int y] := fun H1 => by
    obtain ⟨x1, y1, hxy1, hq1⟩ := hp H1 k p hpk
    obtain ⟨e1, e2⟩ := Prod.mk.inj (Option.some.inj (hxy.symm.trans hxy1))
    rw [e1, e2]
    exact hq1
  unfold t_is_of_age
  have hpl : (l.map V.ref)[k]? = some (V.ref p) := by rw [List.getElem?_map, hpk]; rfl
  refine ev_op (ev_c (v := V.ref c.a_AGES)) (ev_var (v := V.int k) rfl) (rv_ixT (hs H) (atI_nat hpl)) H (Ex.refl H) _ fun H1 e1 => ?_
  refine ⟨p, [.int x, .int y], rfl, hq1 H1, rfl, _, _, rfl, _, _, rfl, rfl, ?_⟩
  dsimp only
  refine s_ret (ev_andV (ev_I0 (ev_var rfl) (ev_var rfl)) fun _ => ev_orV (ev_eqI (ev_var rfl) ev_c) fun _ => ev_I0 (ev_var rfl) (ev_var rfl)) fun H2 e2 => QV (q H2 (e1.trans e2)) ?_
  refine congrArg V.bl ?_
  have cases7 : k = 0 ∨ k = 1 ∨ k = 2 ∨ k = 3 ∨ k = 4 ∨ k = 5 ∨ k = 6 := by omega
  have two : ∀ a b : Bool, (a = true ↔ b = true) → a = b := fun a b h => by cases a <;> cases b <;> simp_all
  rcases cases7 with rfl | rfl | rfl | rfl | rfl | rfl | rfl <;>
    (obtain ⟨rfl, rfl⟩ := Prod.mk.inj (Option.some.inj hxy); refine two _ _ ?_; simp [Kg73.ageOk]; try omega)
theorem pure_Dog_has_enough (T : Txt K mg c) (vs : List V) (H : Hp) (Q : VK) (E : XK) (h : sp_Dog_has_enough K c vs H Q E) : t_Dog_has_enough K c { nx := fun _ H' => Q .non H', rt := Q } (start N_Dog_has_enough vs) H := by
  obtain ⟨z, ⟨i, d, ks, g, kind, n, j, co, days, hD, hk, hn, rfl, rfl⟩, q⟩ := h
  obtain ⟨dx, hi⟩ := hD.ins
  have hlen : g.ks.length = ks.length := by rw [← hD.same, List.length_map]
  unfold t_Dog_has_enough
  refine q_asgL (el_lc (l := g.ks) (val := fun p => V.ref p.1) (fun p => decide ((p.2.kind : Int) = (kind : Int))) (fun p => V.ref p.1)
    (ev_fld (ev_var rfl) hi T.cl_Dog T.n_Dog_awards (lk_Dog_awards _ _ _)) (sq_of hD.aws) (by omega) (fun x => rfl)
    (fun p H1 e hp => by
      obtain ⟨dx', hq⟩ := hD.each p hp
      exact et_test (ev_eqI (ev_fld (ev_var rfl) (e _ _ hq) T.cl_Award T.n_Award_kind (lk_Award_kind _)) (ev_var rfl)))
    (fun p H1 e hp _ => ev_var rfl)) fun p H1 hp e1 h1 => ?_
  have hA : (g.ks.filter fun p => decide ((p.2.kind : Int) = (kind : Int))).map (·.2) = ks.filter fun a => a.kind == kind := by
    rw [← hD.same, List.filter_map]
    refine congrArg (List.map _) (List.filter_congr fun x _ => ?_)
    by_cases q : x.2.kind = kind
    · simp [q]
    · have q' : ¬ (x.2.kind : Int) = (kind : Int) := by omega
      simp [q, q']
  have hE : ∀ p ∈ (g.ks.filter fun p => decide ((p.2.kind : Int) = (kind : Int))), ∃ dx, H p.1 = some (.ins c.C_Award dx (awF p.2)) := fun p hp => hD.each p (List.mem_filter.mp hp).1
  have hl2 : (g.ks.filter fun p => decide ((p.2.kind : Int) = (kind : Int))).length ≤ 4000 := Nat.le_trans (List.length_filter_le _ _) (by omega)
  generalize (g.ks.filter fun p => decide ((p.2.kind : Int) = (kind : Int))) = A at hA hE hl2 h1
  generalize (ks.filter fun a => a.kind == kind) = L at hA q ⊢
  have hAL : A.length = L.length := by rw [← hA, List.length_map]
  unfold Kg73.enough at q
  refine q_when (et_test (ev_I0 (ev_len (ev_var rfl) (sq_of h1)) (ev_var rfl))) (fun hb H2 e2 => s_ret ev_c fun H3 e3 => QV (q H3 ((e1.trans e2).trans e3)) ?_) (fun hb H2 e2 => ?_)
  · have hb' := of_decide_eq_true hb
    rw [List.length_map] at hb'
    rw [decide_eq_false (by omega)]
    rfl
  have hb1 := of_decide_eq_false hb
  rw [List.length_map] at hb1
  rw [decide_eq_true (show n ≤ L.length by omega), Bool.true_and] at q
  have look : ∀ (f : Kg73.Award → Nat) (nm : Str) {H'}, Ex H H' → NoAttr K c.C_Award nm → (∀ a, (awF a).lookup nm = some (.int (f a : Nat))) → ∀ σ : L2.St, σ[6]? = some (some (.ref p)) → H' p = some (.lst (A.map fun p => V.ref p.1)) → (∀ x, wipe ((wipe σ [8]).set 8 (some x)) [8] = wipe σ [8]) → (∀ x, ((wipe σ [8]).set 8 (some x))[8]? = some (some x)) →
      EvL (tLc (iList K (tVar 6)) (gName 8) tYes (tFld K (tVar 8) nm) [8]) σ H' ((L.map f).map fun i : Nat => V.int i) := fun f nm H' ex na hf σ hσ hp' hw hs => by
    have r := el_lc (K := K) (σ := σ) (H := H') (l := A) (val := fun p => V.ref p.1) (j := 8) (vs := [8]) (t := tYes) (te := tFld K (tVar 8) nm) (fun _ => true) (fun p => V.int (f p.2 : Nat)) (ev_var hσ) (sq_of hp') (by omega) hw
      (fun x H1 e hx => fun H1 _ Q q => q H1 (Ex.refl H1)) (fun x H1 e hx _ => by
        obtain ⟨dx', hq⟩ := hE x hx
        exact ev_fld (ev_var (hs _)) (e _ _ (ex _ _ hq)) T.cl_Award na (hf _))
    rw [List.filter_eq_self.mpr (fun _ _ => rfl)] at r
    have e2 : (L.map f).map (fun i : Nat => V.int i) = A.map fun p => V.int (f p.2 : Nat) := by
      rw [← hA, List.map_map, List.map_map]
      rfl
    rw [e2]
    exact r
  refine q_when (et_test (ev_I0 (ev_lenSet (ns := (L.map Kg73.Award.judge).map fun i : Nat => (i : Int)) (by
      rw [List.map_map]
      exact look Kg73.Award.judge _ (e1.trans e2) T.n_Award_judge lk_Award_judge _ rfl (e2 _ _ h1) (fun x => rfl) (fun x => rfl)) (by rw [List.length_map, List.length_map]; omega)) (ev_var rfl))) (fun hb H3 e3 => s_ret ev_c fun H4 e4 => QV (q H4 (((e1.trans e2).trans e3).trans e4)) ?_) (fun hb H3 e3 => ?_)
  · have hb' := of_decide_eq_true hb
    rw [distinct_nats] at hb'
    rw [decide_eq_false (show ¬ j ≤ Kg73.count (L.map Kg73.Award.judge) by omega)]
    rfl
  have hb2 := of_decide_eq_false hb
  rw [distinct_nats] at hb2
  rw [decide_eq_true (show j ≤ Kg73.count (L.map Kg73.Award.judge) by omega), Bool.true_and] at q
  refine q_when (et_test (ev_I0 (ev_lenSet (ns := (L.map Kg73.Award.country).map fun i : Nat => (i : Int)) (by
      rw [List.map_map]
      exact look Kg73.Award.country _ ((e1.trans e2).trans e3) T.n_Award_country lk_Award_country _ rfl (e3 _ _ (e2 _ _ h1)) (fun x => rfl) (fun x => rfl)) (by rw [List.length_map, List.length_map]; omega)) (ev_var rfl))) (fun hb H4 e4 => s_ret ev_c fun H5 e5 => QV (q H5 ((((e1.trans e2).trans e3).trans e4).trans e5)) ?_) (fun hb H4 e4 => ?_)
  · have hb' := of_decide_eq_true hb
    rw [distinct_nats] at hb'
    rw [decide_eq_false (show ¬ co ≤ Kg73.count (L.map Kg73.Award.country) by omega)]
    rfl
  have hb3 := of_decide_eq_false hb
  rw [distinct_nats] at hb3
  rw [decide_eq_true (show co ≤ Kg73.count (L.map Kg73.Award.country) by omega), Bool.true_and] at q
  have e14 := ((e1.trans e2).trans e3).trans e4
  refine q_asgL (look Kg73.Award.day _ e14 T.n_Award_day lk_Award_day _ rfl (e4 _ _ (e3 _ _ (e2 _ _ h1))) (fun x => rfl) (fun x => rfl)) fun r H5 hr e5 h5 => ?_
  have hne : L.map Kg73.Award.day ≠ [] := fun z => by
    have := congrArg List.length z
    rw [List.length_map, List.length_nil] at this
    omega
  have h5' : H5 r = some (.lst (((L.map Kg73.Award.day).map fun i : Nat => (i : Int)).map V.int)) := by
    rw [h5]
    exact congrArg (fun q => some (HO.lst q)) (by rw [List.map_map (f := fun i : Nat => (i : Int))]; rfl)
  have pos : 0 < ((L.map Kg73.Award.day).map fun i : Nat => (i : Int)).length := by rw [List.length_map, List.length_map]; omega
  refine s_ret (ev_I0 (ev_I0 (ev_max (ev_var rfl) (sq_of h5') pos (fun m' => max_is hne)) (ev_min (ev_var rfl) (sq_of h5') pos (fun m' => min_is hne))) (ev_var rfl)) fun H6 e6 => QV (q H6 ((e14.trans e5).trans e6)) ?_
  have mm := min_le_max hne
  unfold Kg73.spread
  generalize (L.map Kg73.Award.day).foldl max 0 = M at mm ⊢
  generalize (L.map Kg73.Award.day).foldl min ((L.map Kg73.Award.day).headD 0) = m at mm ⊢
  by_cases h : days ≤ M - m
  · rw [decide_eq_true h, decide_eq_true (show (days : Int) ≤ (M : Int) - (m : Int) by omega)]
  · rw [decide_eq_false h, decide_eq_false (show ¬ (days : Int) ≤ (M : Int) - (m : Int) by omega)]
end
end Ds

/-! Titles, shows: each promise gives its reading. -/
namespace Ds
open PySem PySem.Spec PyProof.Rows L2 Evl

/-! ### what a book's parts give -/
theorem BookAt.dog {c : Cs} {H : Hp} {n : Nat} {s : Kg73.State} {g : GBook} (B : BookAt c H n s g) {i : Nat} (hi : i < s.dogs.length) : ∃ x, g.ds[i]? = some x ∧ g.at i = x.a ∧ DogAt c H i (s.dog i) (keptOf s.kept i) x := by
  have hi' : i < g.ds.length := by rw [B.dn]; exact hi
  have e1 : g.ds[i]? = some g.ds[i] := List.getElem?_eq_getElem hi'
  have e2 : s.dogs[i]? = some s.dogs[i] := List.getElem?_eq_getElem hi
  refine ⟨g.ds[i], e1, ?_, ?_⟩
  · unfold GBook.at
    rw [List.getD_eq_getElem?_getD, List.getElem?_map, e1]
    rfl
  · have d := B.ds i _ _ e2 e1
    unfold Kg73.State.dog
    rw [List.getD_eq_getElem?_getD, e2]
    exact d
theorem kept_small {s : Kg73.State} {n : Nat} (G : Good s n) (h : n ≤ 250) (i : Nat) : (keptOf s.kept i).length ≤ 4000 := by
  have := G.kept
  have := List.length_filter_le (fun a => a.dog == i) s.kept
  unfold keptOf
  omega
theorem Vw.dog {c : Cs} {H : Hp} {n : Nat} {s : Kg73.State} {g : GBook} {w : Kg73.Show} {x : GShow} (v : Vw c H n s g w x) {i : Nat} (hi : i < s.dogs.length) : ∃ dx aw, H (g.at i) = some (.ins c.C_Dog dx (dogF i (s.dog i) aw)) := by
  obtain ⟨x, _, e, d⟩ := v.bk.dog hi
  obtain ⟨dx, q⟩ := d.ins
  rw [e]
  exact ⟨dx, _, q⟩
theorem Vw.small {c : Cs} {H : Hp} {n : Nat} {s : Kg73.State} {g : GBook} {w : Kg73.Show} {x : GShow} (v : Vw c H n s g w x) : w.entries.length ≤ 250 ∧ w.rows.length ≤ 250 ∧ w.awards.length ≤ 250 := by
  obtain ⟨a, b, d⟩ := v.gd.len w v.sw
  have := v.n250
  omega
theorem of_champion (l : List Kg73.Award) (i k : Nat) : (keptOf l i).filter (fun a => a.kind == k) = Kg73.of l i k := by
  unfold keptOf Kg73.of
  rw [List.filter_filter]
  refine List.filter_congr fun a _ => ?_
  rw [Bool.and_comm]

theorem q_asgT {σ : L2.St} {H : Hp} {ta tb te : TE} {D : Ends} {tz : TS} {i : Nat} {a : Addr} {kvs : List (List Key × V)} {k : List Key} {xs : List V} (ha : Ev ta σ H (.ref a)) (hd : H a = some (.dT kvs)) (hk : EvU tb σ H (k.map kV)) (hx : EvL te σ H [])
    (h1 : ∀ w, valV kvs k = some w → ∃ p, w = .ref p ∧ H p = some (.lst xs)) (h2 : valV kvs k = none → xs = []) (q : ∀ p H1, Ex H H1 → H1 p = some (.lst xs) → tz D (σ.set i (some (.ref p))) H1) : tSeq (tAsg (tDGet2 ta tb te) (gName i)) tz D σ H :=
  ev_getT ha hd hk hx h1 h2 H (Ex.refl H) (fun v H1 => tz D (σ.set i (some v)) H1) q
section
variable {K : PySem.W.Frag} {mg : Str → Option Value} {c : Cs} {vs : List V} {H : Hp} {Q : VK} {E : XK}

/-! ### calls, told by what they give -/
theorem v_enough {i : Nat} {d : Kg73.Dog} {ks : List Kg73.Award} {g : GDog} (D : DogAt c H i d ks g) (hk : ks.length ≤ 4000) (kind n j co days : Nat) (hn : 1 ≤ n) :
    SpV (sp_Dog_has_enough K c) [.ref g.a, .int (kind : Nat), .int (n : Nat), .int (j : Nat), .int (co : Nat), .int (days : Nat)] H (.bl (Kg73.enough (ks.filter fun a => a.kind == kind) n j co days)) :=
  spV_of fun H1 e => ⟨i, d, ks, g, kind, n, j, co, days, D.mono e, hk, hn, rfl, rfl⟩
theorem v_champion {i : Nat} {d : Kg73.Dog} {ks : List Kg73.Award} {g : GDog} (D : DogAt c H i d ks g) (hk : ks.length ≤ 4000) : SpV (sp_Dog_is_champion K c) [.ref g.a] H (.bl (Kg73.enough (ks.filter fun a => a.kind == 0) 3 3 1 366)) :=
  spV_of fun H1 e => ⟨i, d, ks, g, D.mono e, hk, rfl, rfl⟩
theorem v_young {i : Nat} {d : Kg73.Dog} {ks : List Kg73.Award} {g : GDog} (D : DogAt c H i d ks g) (hk : ks.length ≤ 4000) : SpV (sp_Dog_is_young_champion K c) [.ref g.a] H (.bl (Kg73.enough (ks.filter fun a => a.kind == 2) 3 2 1 0)) :=
  spV_of fun H1 e => ⟨i, d, ks, g, D.mono e, hk, rfl, rfl⟩
theorem v_old {i : Nat} {d : Kg73.Dog} {ks : List Kg73.Award} {g : GDog} (D : DogAt c H i d ks g) (hk : ks.length ≤ 4000) : SpV (sp_Dog_is_old_champion K c) [.ref g.a] H (.bl (Kg73.enough (ks.filter fun a => a.kind == 3) 3 2 1 0)) :=
  spV_of fun H1 e => ⟨i, d, ks, g, D.mono e, hk, rfl, rfl⟩
theorem v_wide {i : Nat} {d : Kg73.Dog} {ks : List Kg73.Award} {g : GDog} (D : DogAt c H i d ks g) (hk : ks.length ≤ 4000) :
    SpV (sp_Dog_is_international K c) [.ref g.a] H (.bl (Kg73.enough (ks.filter fun a => a.kind == 4) 4 3 3 366 || (d.worked && Kg73.enough (ks.filter fun a => a.kind == 4) 2 2 2 366))) :=
  spV_of fun H1 e => ⟨i, d, ks, g, D.mono e, hk, rfl, rfl⟩
variable {n : Nat} {s : Kg73.State} {g : GBook} {w : Kg73.Show} {x : GShow}
theorem v_class (v : Vw c H n s g w x) {i : Nat} (hi : i < s.dogs.length) : SpV (sp_Show_class_of K c) [.ref x.a, .ref (g.at i)] H (.int (clsOf w i)) := spV_of fun H1 e => ⟨n, s, g, w, x, i, v.mono e, hi, rfl, rfl⟩
theorem v_grade (v : Vw c H n s g w x) {i : Nat} (hi : i < s.dogs.length) : SpV (sp_Show_grade_of K c) [.ref x.a, .ref (g.at i)] H (.int (w.grade i : Nat)) := spV_of fun H1 e => ⟨n, s, g, w, x, i, v.mono e, hi, rfl, rfl⟩
theorem v_placed (v : Vw c H n s g w x) (k sx p : Nat) : SpL (sp_Show_placed K c) [.ref x.a, .int (k : Nat), .int (sx : Nat), .int (p : Nat)] H (refs g (placed w k sx p)) := spL_of fun H1 e => ⟨n, s, g, w, x, k, sx, p, v.mono e, rfl, rfl⟩
theorem v_firsts (v : Vw c H n s g w x) (sx : Nat) : SpL (sp_Show_firsts K c) [.ref x.a, .int (sx : Nat)] H (refs g (w.firsts sx)) := spL_of fun H1 e => ⟨n, s, g, w, x, sx, v.mono e, rfl, rfl⟩
theorem v_holder (v : Vw c H n s g w x) (k sx : Nat) : SpV (sp_Show_holder K c) [.ref x.a, .int (k : Nat), .int (sx : Nat)] H (holdV g (w.holder s k sx)) := spV_of fun H1 e => ⟨n, s, g, w, x, k, sx, v.mono e, rfl, rfl⟩
theorem v_given (v : Vw c H n s g w x) (k : Nat) : SpV (sp_Show_is_given K c) [.ref x.a, .int (k : Nat)] H (.bl (w.awards.any fun a => a.kind == k)) := spV_of fun H1 e => ⟨n, s, g, w, x, k, v.mono e, rfl, rfl⟩
theorem v_may (v : Vw c H n s g w x) {k sx : Nat} (hk : k ≤ 7) (hs : sx ≤ 1) : SpL (sp_Show_may_have K c) [.ref x.a, .int (k : Nat), .int (sx : Nat)] H (refs g (w.may s k sx)) := spL_of fun H1 e => ⟨n, s, g, w, x, k, sx, v.mono e, hk, hs, rfl, rfl⟩
theorem v_next (v : Vw c H n s g w x) {k sx : Nat} (hk : k = 1 ∨ k = 5) (hs : sx ≤ 1) : SpL (sp_Show_next_ones K c) [.ref x.a, .int (k : Nat), .int (sx : Nat)] H (refs g (w.may s k sx)) := spL_of fun H1 e => ⟨n, s, g, w, x, k, sx, v.mono e, hk, hs, rfl, rfl⟩
theorem v_bests (v : Vw c H n s g w x) (sx : Nat) : SpL (sp_Show_bests K c) [.ref x.a, .int (sx : Nat)] H (refs g (w.finalists s sx)) := spL_of fun H1 e => ⟨n, s, g, w, x, sx, v.mono e, rfl, rfl⟩
theorem v_counts (v : Vw c H n s g w x) {a : Kg73.Award} (ha : a ∈ w.awards) : SpV (sp_Show_counts_as K c) [.ref x.a, .ref (g.at a.dog), .int (a.kind : Nat)] H (.int (upKind s w a : Nat)) := spV_of fun H1 e => ⟨n, s, g, w, x, a, v.mono e, ha, rfl, rfl⟩

/-! ### titles -/
theorem title_of (T : Txt K mg c) {kind n j co days : Nat} (hn : 1 ≤ n) {te : TE} {N : List Str} {vs : List V} {H : Hp} {Q : VK} {E : XK} (h : sp_title c kind n j co days vs H Q E)
    (hte : te = tMeth c.C_Dog "has_enough" (sp_Dog_has_enough K c) [] E0 (tVar 0) (tCons (tC (.int (kind : Nat))) (tCons (tC (.int (n : Nat))) (tCons (tC (.int (j : Nat))) (tCons (tC (.int (co : Nat))) (tCons (tC (.int (days : Nat))) tNil))))))
    (hv : ∀ v, vs = [v] → (start N vs)[0]? = some (some v)) : tRet te { nx := fun _ H' => Q .non H', rt := Q } (start N vs) H := by
  obtain ⟨z, ⟨i, d, ks, g, D, hk, rfl, rfl⟩, q⟩ := h
  obtain ⟨dx, hi⟩ := D.ins
  subst hte
  exact s_ret (ev_meth (ev_var (hv _ rfl)) hi (nk_Dog_has_enough _ _ _) (ea_cons ev_c (ea_cons ev_c (ea_cons ev_c (ea_cons ev_c (ea_cons ev_c ea_nil))))) (v_enough D hk kind n j co days hn)) q
theorem pure_Dog_is_champion (T : Txt K mg c) (vs : List V) (H : Hp) (Q : VK) (E : XK) (h : sp_Dog_is_champion K c vs H Q E) : t_Dog_is_champion K c { nx := fun _ H' => Q .non H', rt := Q } (start N_Dog_is_champion vs) H :=
  title_of T (by decide) h rfl fun v e => by subst e; rfl
theorem pure_Dog_is_young_champion (T : Txt K mg c) (vs : List V) (H : Hp) (Q : VK) (E : XK) (h : sp_Dog_is_young_champion K c vs H Q E) : t_Dog_is_young_champion K c { nx := fun _ H' => Q .non H', rt := Q } (start N_Dog_is_young_champion vs) H :=
  title_of T (by decide) h rfl fun v e => by subst e; rfl
theorem pure_Dog_is_old_champion (T : Txt K mg c) (vs : List V) (H : Hp) (Q : VK) (E : XK) (h : sp_Dog_is_old_champion K c vs H Q E) : t_Dog_is_old_champion K c { nx := fun _ H' => Q .non H', rt := Q } (start N_Dog_is_old_champion vs) H :=
  title_of T (by decide) h rfl fun v e => by subst e; rfl
theorem pure_Dog_is_international (T : Txt K mg c) (vs : List V) (H : Hp) (Q : VK) (E : XK) (h : sp_Dog_is_international K c vs H Q E) : t_Dog_is_international K c { nx := fun _ H' => Q .non H', rt := Q } (start N_Dog_is_international vs) H := by
  obtain ⟨z, ⟨i, d, ks, g, D, hk, rfl, rfl⟩, q⟩ := h
  obtain ⟨dx, hi⟩ := D.ins
  unfold t_Dog_is_international
  refine q_when (et_B (ev_meth (ev_var rfl) hi (nk_Dog_has_enough _ _ _) (ea_cons ev_c (ea_cons ev_c (ea_cons ev_c (ea_cons ev_c (ea_cons ev_c ea_nil))))) (v_enough D hk 4 4 3 3 366 (by decide)))) (fun hb H1 e1 => s_ret ev_c fun H2 e2 => ?_) (fun hb H1 e1 => ?_)
  · rw [hb, Bool.true_or] at q
    exact q H2 (e1.trans e2)
  · rw [hb, Bool.false_or] at q
    exact s_ret (ev_andV (ev_fld (ev_var rfl) (e1 _ _ hi) T.cl_Dog T.n_Dog_worked (lk_Dog_worked _ _ _)) fun _ => ev_meth (ev_var rfl) (e1 _ _ hi) (nk_Dog_has_enough _ _ _) (ea_cons ev_c (ea_cons ev_c (ea_cons ev_c (ea_cons ev_c (ea_cons ev_c ea_nil))))) (v_enough (D.mono e1) hk 4 2 2 2 366 (by decide)))
      fun H2 e2 => q H2 (e1.trans e2)

/-! ### shows -/
theorem clsOf_find (v : Vw c H n s g w x) (i : Nat) : clsOf w i = match x.es.find? (fun p => p.2.dog == i) with
    | some p => (p.2.class_ : Nat)
    | none => -1 := by
  have e : (x.es.map fun p => (p.2.dog, p.2.class_)).find? (fun q => q.1 == i) = (w.entries.map fun e => (e.dog, e.class_)).find? (fun q => q.1 == i) := by rw [v.sa.esE]
  rw [List.find?_map, List.find?_map] at e
  have e' : (x.es.find? fun p => p.2.dog == i).map (fun p => (p.2.dog, p.2.class_)) = (w.entries.find? fun e => e.dog == i).map (fun e => (e.dog, e.class_)) := e
  unfold clsOf Kg73.Show.entry
  cases h1 : x.es.find? (fun p => p.2.dog == i) with
  | none =>
    cases h2 : w.entries.find? (fun e => e.dog == i) with
    | none => rfl
    | some q => rw [h1, h2] at e'; cases e'
  | some p =>
    cases h2 : w.entries.find? (fun e => e.dog == i) with
    | none => rw [h1, h2] at e'; cases e'
    | some q =>
      rw [h1, h2] at e'
      have e2 := Option.some.inj e'
      have e3 : p.2.class_ = q.class_ := congrArg Prod.snd e2
      show ((q.class_ : Nat) : Int) = _
      rw [← e3]
theorem Vw.esDog (v : Vw c H n s g w x) {p : Addr × Kg73.Entry} (hp : p ∈ x.es) : p.2.dog < s.dogs.length := by
  have m : (p.2.dog, p.2.class_) ∈ w.entries.map fun e => (e.dog, e.class_) := by
    rw [← v.sa.esE]
    exact List.mem_map.mpr ⟨p, hp, rfl⟩
  obtain ⟨e, he, q⟩ := List.mem_map.mp m
  have q1 : e.dog = p.2.dog := congrArg Prod.fst q
  rw [← q1]
  exact v.gw.eDog e he
theorem Vw.gsDog (v : Vw c H n s g w x) {p : Addr × Kg73.Award} (hp : p ∈ x.gs) : p.2.dog < s.dogs.length := by
  have m : p.2 ∈ w.awards := by
    rw [← v.sa.gsE]
    exact List.mem_map.mpr ⟨p, hp, rfl⟩
  exact (v.gw.aDog _ m).1
theorem pure_Show_class_of (T : Txt K mg c) (vs : List V) (H : Hp) (Q : VK) (E : XK) (h : sp_Show_class_of K c vs H Q E) : t_Show_class_of K c { nx := fun _ H' => Q .non H', rt := Q } (start N_Show_class_of vs) H := by
  obtain ⟨z, ⟨n, s, g, w, x, i, v, hi, rfl, rfl⟩, q⟩ := h
  obtain ⟨dx, hs⟩ := v.sa.ins
  obtain ⟨dd, aw, hd⟩ := v.dog hi
  unfold t_Show_class_of
  refine q_forM (l := x.es) (val := fun p => V.ref p.1) (ev_fld (ev_var rfl) hs T.cl_Show T.n_Show_entered (lk_Show_entered _ _ _ _ _)) (sq_of v.sa.le)
    (fun k σ' H' => (∃ a b, σ' = [some (.ref x.a), some (.ref (g.at i)), a, b]) ∧ Ex H H' ∧ (x.es.take k).find? (fun p => p.2.dog == i) = none)
    (fun H1 e1 => ⟨⟨none, none, rfl⟩, e1, rfl⟩) (fun k σ' H' p => sq_of (p.2.1 _ _ v.sa.le)) (fun k p σ' H' hk pv => ?_) (fun σ' H' pv => ?_)
  · obtain ⟨⟨a, b, rfl⟩, ex, hn⟩ := pv
    have hp : p ∈ x.es := List.mem_of_getElem? hk
    refine g_pair (ex _ _ (v.sa.es p hp)) ?_
    obtain ⟨de, we, hde⟩ := v.dog (v.esDog hp)
    refine s_when (et_test (ev_eqI (ev_fld (ev_var rfl) (ex _ _ hde) T.cl_Dog T.n_Dog_number (lk_Dog_number _ _ _)) (ev_fld (ev_var rfl) (ex _ _ hd) T.cl_Dog T.n_Dog_number (lk_Dog_number _ _ _)))) (fun hb H1 e1 => s_ret (ev_var rfl) fun H2 e2 => ?_) (fun hb H1 e1 => ⟨⟨_, _, rfl⟩, ex.trans e1, ?_⟩)
    · have hb' : p.2.dog = i := Int.ofNat_inj.mp (of_decide_eq_true hb)
      have f := find_take (fun p => p.2.dog == i) hk hn (by simp [hb'])
      rw [clsOf_find v, f] at q
      exact q H2 ((ex.trans e1).trans e2)
    · have hb' := of_decide_eq_false hb
      have nb : ¬ p.2.dog = i := fun z => hb' (by rw [z])
      rw [take_snoc hk, List.find?_append, hn]
      simp [nb]
  · obtain ⟨⟨a, b, rfl⟩, ex, hn⟩ := pv
    rw [List.take_length] at hn
    rw [clsOf_find v, hn] at q
    exact s_ret (ev_neg ev_c) fun H2 e2 => q H2 (ex.trans e2)
theorem pure_Show_grade_of (T : Txt K mg c) (vs : List V) (H : Hp) (Q : VK) (E : XK) (h : sp_Show_grade_of K c vs H Q E) : t_Show_grade_of K c { nx := fun _ H' => Q .non H', rt := Q } (start N_Show_grade_of vs) H := by
  obtain ⟨z, ⟨n, s, g, w, x, i, v, hi, rfl, rfl⟩, q⟩ := h
  obtain ⟨dx, hs⟩ := v.sa.ins
  obtain ⟨dd, aw, hd⟩ := v.dog hi
  unfold t_Show_grade_of
  refine s_ret (ev_getK (ev_fld (ev_var rfl) hs T.cl_Show T.n_Show_grades (lk_Show_grades _ _ _ _ _)) v.sa.dg (ev_fld (ev_var rfl) hd T.cl_Dog T.n_Dog_number (lk_Dog_number _ _ _)) ev_c) fun H1 e1 => QV (q H1 e1) ?_
  exact (v.sa.gk i).symm
theorem rowK_val (rs : List (Addr × Kg73.Row)) (k sx : Nat) : valV (rowK rs) [Sum.inl (k : Int), Sum.inl (sx : Int)] = (rs.find? fun p => p.2.class_ == k && p.2.sex == sx).map fun p => V.ref p.1 := by
  unfold valV rowK
  rw [List.find?_map, Option.map_map]
  refine congrArg (Option.map _) (congrArg (fun f => List.find? f rs) (funext fun p => ?_))
  show decide (([Sum.inl (p.2.class_ : Int), Sum.inl (p.2.sex : Int)] : List Key) = [Sum.inl (k : Int), Sum.inl (sx : Int)]) = _
  by_cases h : p.2.class_ = k ∧ p.2.sex = sx
  · obtain ⟨h1, h2⟩ := h
    simp [h1, h2]
  · have : ¬ (([Sum.inl (p.2.class_ : Int), Sum.inl (p.2.sex : Int)] : List Key) = [Sum.inl (k : Int), Sum.inl (sx : Int)]) := fun z => by
      obtain ⟨z1, z2⟩ := List.cons.inj z
      have a := Int.ofNat_inj.mp (Sum.inl.inj z1)
      have b := Int.ofNat_inj.mp (Sum.inl.inj (List.cons.inj z2).1)
      exact h ⟨a, b⟩
    rw [decide_eq_false this]
    by_cases h1 : p.2.class_ = k
    · have h2 : ¬ p.2.sex = sx := fun z => h ⟨h1, z⟩
      simp [h2]
    · simp [h1]
theorem row_of (v : Vw c H n s g w x) (k sx : Nat) : w.row k sx = ((x.rs.find? fun p => p.2.class_ == k && p.2.sex == sx).map fun p => p.2.dogs).getD [] := by
  unfold Kg73.Show.row
  rw [← v.sa.rsE, List.find?_map, Option.map_map]
  rfl
theorem pure_Show_placed (T : Txt K mg c) (vs : List V) (H : Hp) (Q : VK) (E : XK) (h : sp_Show_placed K c vs H Q E) : t_Show_placed K c { nx := fun _ H' => Q .non H', rt := Q } (start N_Show_placed vs) H := by
  obtain ⟨z, ⟨n, s, g, w, x, k, sx, p, v, rfl, rfl⟩, q⟩ := h
  obtain ⟨dx, hs⟩ := v.sa.ins
  unfold t_Show_placed
  refine q_asgT (kvs := rowK x.rs) (k := [Sum.inl (k : Int), Sum.inl (sx : Int)]) (xs := refs g (w.row k sx)) (ev_fld (ev_var (i := 0) rfl) hs T.cl_Show T.n_Show_rows (lk_Show_rows _ _ _ _ _)) v.sa.dr (eu_tup (vs := [.int (k : Nat), .int (sx : Nat)]) (ea_cons (ev_var (i := 1) rfl) (ea_cons (ev_var (i := 2) rfl) ea_nil)) (by show 2 ≤ 100000; decide)) (el_lst ea_nil (by decide))
    (fun u hu => ?_) (fun hu => ?_) fun r H1 e1 hr => ?_
  · rw [rowK_val] at hu
    rw [row_of v]
    cases f : x.rs.find? (fun p => p.2.class_ == k && p.2.sex == sx) with
    | none => rw [f] at hu; cases hu
    | some p =>
      rw [f] at hu
      exact ⟨p.1, (Option.some.inj hu).symm, v.sa.rs p (List.mem_of_find?_eq_some f)⟩
  · rw [rowK_val] at hu
    rw [row_of v]
    cases f : x.rs.find? (fun p => p.2.class_ == k && p.2.sex == sx) with
    | none => rfl
    | some p => rw [f] at hu; cases hu
  · have ge : ∀ i, (w.row k sx)[p]? = some i → ¬ (((refs g (w.row k sx)).length : Int) ≤ (p : Int)) := fun i hi => by
      have := (List.getElem?_eq_some_iff.mp hi).1
      unfold refs
      rw [List.length_map]
      omega
    cases hrow : (w.row k sx)[p]? with
    | none =>
      have hge : ((refs g (w.row k sx)).length : Int) ≤ (p : Int) := by
        have := List.getElem?_eq_none_iff.mp hrow
        unfold refs
        rw [List.length_map]
        omega
      have pl : placed w k sx p = [] := by unfold placed; rw [hrow]
      rw [pl] at q
      have t1 := et_or (t := tTest (tOp (rI0 fun i j => .bl (decide (j ≤ i))) (tVar 3) (tCB (rLenS K) (tCons (tVar 4) tNil)))) (u := tTest (tOp rNe (tMeth c.C_Show "grade_of" (sp_Show_grade_of K c) [] E0 (tVar 0) (tCons (tOp (rIxL K) (tVar 4) (tVar 3)) tNil)) (tC (.int 3)))) (b := true)
        (et_test (ev_I0 (f := fun i j => .bl (decide (j ≤ i))) (ev_var (σ := [some (.ref x.a), some (.int (k : Nat)), some (.int (sx : Nat)), some (.int (p : Nat)), some (.ref r)]) rfl) (ev_len (ev_var rfl) (sq_of hr)))) (fun hf => absurd hge (of_decide_eq_false hf))
      refine q_when t1 (fun hb H2 e2 => s_retL (el_lst ea_nil (by decide)) fun l H3 hl e3 h3 => q l H3 (fresh_back (e1.trans e2) hl) ((e1.trans e2).trans e3) h3) (fun hb H2 e2 => ?_)
      rw [Bool.or_true] at hb
      cases hb
    | some i =>
      have hil : i < s.dogs.length := (row_entry v.gw (List.mem_of_getElem? hrow)).1
      have hri : (refs g (w.row k sx))[p]? = some (.ref (g.at i)) := by unfold refs; rw [List.getElem?_map, hrow]; rfl
      have t1 := et_or (t := tTest (tOp (rI0 fun i j => .bl (decide (j ≤ i))) (tVar 3) (tCB (rLenS K) (tCons (tVar 4) tNil)))) (u := tTest (tOp rNe (tMeth c.C_Show "grade_of" (sp_Show_grade_of K c) [] E0 (tVar 0) (tCons (tOp (rIxL K) (tVar 4) (tVar 3)) tNil)) (tC (.int 3))))
        (et_test (ev_I0 (f := fun i j => .bl (decide (j ≤ i))) (ev_var (σ := [some (.ref x.a), some (.int (k : Nat)), some (.int (sx : Nat)), some (.int (p : Nat)), some (.ref r)]) rfl) (ev_len (ev_var rfl) (sq_of hr))))
        (fun _ => et_test (ev_neI (ev_meth (ev_var rfl) (e1 _ _ hs) (nk_Show_grade_of _ _ _ _ _) (ea_cons (ev_op (ev_var rfl) (ev_var rfl) (rv_ixL (sq_of hr) (atI_nat hri))) ea_nil) (v_grade (v.mono e1) hil)) ev_c))
      rw [decide_eq_false (ge i hrow), Bool.false_or] at t1
      refine q_when t1 (fun hb H2 e2 => s_retL (el_lst ea_nil (by decide)) fun l H3 hl e3 h3 => ?_) (fun hb H2 e2 => ?_)
      · have hb' : ¬ w.grade i = 3 := fun z => by rw [z] at hb; cases hb
        have pl : placed w k sx p = [] := by unfold placed; rw [hrow]; simp [hb']
        rw [pl] at q
        exact q l H3 (fresh_back (e1.trans e2) hl) ((e1.trans e2).trans e3) h3
      · have hb' : w.grade i = 3 := by
          by_cases z : w.grade i = 3
          · exact z
          · have z' : ¬ (((w.grade i : Nat) : Int) = 3) := by omega
            rw [decide_eq_false z'] at hb
            cases hb
        have pl : placed w k sx p = [i] := by unfold placed; rw [hrow]; simp [hb']
        rw [pl] at q
        exact s_retL (el_lst (ea_cons (ev_op (ev_var rfl) (ev_var rfl) (rv_ixL (sq_of (e2 _ _ hr)) (atI_nat hri))) ea_nil) (by show 1 ≤ 100000; decide)) fun l H3 hl e3 h3 => q l H3 (fresh_back (e1.trans e2) hl) ((e1.trans e2).trans e3) h3
theorem pure_Show_firsts (T : Txt K mg c) (vs : List V) (H : Hp) (Q : VK) (E : XK) (h : sp_Show_firsts K c vs H Q E) : t_Show_firsts K c { nx := fun _ H' => Q .non H', rt := Q } (start N_Show_firsts vs) H := by
  obtain ⟨z, ⟨n, s, g, w, x, sx, v, rfl, rfl⟩, q⟩ := h
  obtain ⟨dx, hs⟩ := v.sa.ins
  unfold t_Show_firsts
  refine q_asgL (el_lst ea_nil (by decide)) fun l H1 hl e1 h1 => ?_
  refine q_forT (a := c.a_GROWN) (xs := ([2, 3, 4, 5] : List Nat).map fun k : Nat => V.int k) ev_c (T.q_GROWN H1)
    (fun k σ' H' => (∃ a, σ' = [some (.ref x.a), some (.int (sx : Nat)), some (.ref l), a]) ∧ Ex H H' ∧ H' l = some (.lst (refs g ((([2, 3, 4, 5] : List Nat).take k).flatMap fun k => placed w k sx 0))))
    (fun H2 e2 => ⟨⟨none, rfl⟩, e1.trans e2, e2 _ _ h1⟩) (fun k σ' H' _ p => T.q_GROWN H') (fun k y σ' H' hk pv => ?_) (fun σ' H' pv => ?_)
  · obtain ⟨⟨a, rfl⟩, ex, hl'⟩ := pv
    obtain ⟨m, hm, rfl⟩ := map_at hk
    have lim : k < 4 := by
      have := (List.getElem?_eq_some_iff.mp hm).1
      simpa using this
    have small : ((([2, 3, 4, 5] : List Nat).take k).flatMap fun k => placed w k sx 0).length ≤ 4 := by
      have h1 := @placed_len w 2 sx 0
      have h2 := @placed_len w 3 sx 0
      have h3 := @placed_len w 4 sx 0
      have h4 := @placed_len w 5 sx 0
      have c4 : k = 0 ∨ k = 1 ∨ k = 2 ∨ k = 3 := by omega
      rcases c4 with rfl | rfl | rfl | rfl <;> simp <;> omega
    refine s_ext (xs := refs g ((([2, 3, 4, 5] : List Nat).take k).flatMap fun k => placed w k sx 0)) (zs := refs g (placed w m sx 0)) hl' (ev_var rfl)
      (el_meth (ev_var rfl) (ex _ _ hs) (nk_Show_placed _ _ _ _ _) (ea_cons (ev_var rfl) (ea_cons (ev_var rfl) (ea_cons ev_c ea_nil))) (v_placed (v.mono ex) m sx 0)) (by
        unfold refs
        rw [List.length_map, List.length_map]
        have := @placed_len w m sx 0
        omega) fun H2 e2 => ⟨⟨_, rfl⟩, (ex.trans e2).mut hl, ?_⟩
    rw [upd_same, take_snoc hm, List.flatMap_append]
    unfold refs
    rw [List.map_append]
    simp
  · obtain ⟨⟨a, rfl⟩, ex, hl'⟩ := pv
    have e4 : ((([2, 3, 4, 5] : List Nat).take (([2, 3, 4, 5] : List Nat).map fun k : Nat => V.int k).length).flatMap fun k => placed w k sx 0) = w.firsts sx := by
      rw [firsts_eq]
      simp
    rw [e4] at hl'
    exact s_ret (ev_var rfl) fun H2 e2 => q l H2 hl (ex.trans e2) (e2 _ _ hl')
theorem pure_Show_holder (T : Txt K mg c) (vs : List V) (H : Hp) (Q : VK) (E : XK) (h : sp_Show_holder K c vs H Q E) : t_Show_holder K c { nx := fun _ H' => Q .non H', rt := Q } (start N_Show_holder vs) H := by
  obtain ⟨z, ⟨n, s, g, w, x, k, sx, v, rfl, rfl⟩, q⟩ := h
  obtain ⟨dx, hs⟩ := v.sa.ins
  have hold : w.holder s k sx = (x.gs.find? fun p => p.2.kind == k && (s.dog p.2.dog).sex == sx).map fun p => p.2.dog := by
    unfold Kg73.Show.holder
    rw [← v.sa.gsE, List.find?_map, Option.map_map]
    rfl
  unfold t_Show_holder
  refine q_forM (l := x.gs) (val := fun p => V.ref p.1) (ev_fld (ev_var rfl) hs T.cl_Show T.n_Show_given (lk_Show_given _ _ _ _ _)) (sq_of v.sa.lg)
    (fun m σ' H' => (∃ a b, σ' = [some (.ref x.a), some (.int (k : Nat)), some (.int (sx : Nat)), a, b]) ∧ Ex H H' ∧ (x.gs.take m).find? (fun p => p.2.kind == k && (s.dog p.2.dog).sex == sx) = none)
    (fun H1 e1 => ⟨⟨none, none, rfl⟩, e1, rfl⟩) (fun m σ' H' p => sq_of (p.2.1 _ _ v.sa.lg)) (fun m p σ' H' hm pv => ?_) (fun σ' H' pv => ?_)
  · obtain ⟨⟨a, b, rfl⟩, ex, hn⟩ := pv
    have hp : p ∈ x.gs := List.mem_of_getElem? hm
    refine g_pair (ex _ _ (v.sa.gs p hp)) ?_
    obtain ⟨de, we, hde⟩ := v.dog (v.gsDog hp)
    have pb : (decide ((p.2.kind : Int) = (k : Int)) && decide (((s.dog p.2.dog).sex : Int) = (sx : Int))) = (p.2.kind == k && (s.dog p.2.dog).sex == sx) := by
      have h1 : decide ((p.2.kind : Int) = (k : Int)) = (p.2.kind == k) := by
        by_cases h : p.2.kind = k
        · simp [h]
        · have h' : ¬ (p.2.kind : Int) = (k : Int) := by omega
          simp [h, h']
      have h2 : decide (((s.dog p.2.dog).sex : Int) = (sx : Int)) = ((s.dog p.2.dog).sex == sx) := by
        by_cases h : (s.dog p.2.dog).sex = sx
        · simp [h]
        · have h' : ¬ (((s.dog p.2.dog).sex : Nat) : Int) = (sx : Int) := by omega
          simp [h, h']
      rw [h1, h2]
    refine s_when (et_and (et_test (ev_eqI (ev_var rfl) (ev_var rfl))) fun _ => et_test (ev_eqI (ev_fld (ev_var rfl) (ex _ _ hde) T.cl_Dog T.n_Dog_sex (lk_Dog_sex _ _ _)) (ev_var rfl))) (fun hb H1 e1 => s_ret (ev_var rfl) fun H2 e2 => ?_) (fun hb H1 e1 => ⟨⟨_, _, rfl⟩, ex.trans e1, ?_⟩)
    · rw [pb] at hb
      have f := find_take (fun p => p.2.kind == k && (s.dog p.2.dog).sex == sx) hm hn hb
      rw [hold, f] at q
      exact q H2 ((ex.trans e1).trans e2)
    · rw [pb] at hb
      rw [take_snoc hm, List.find?_append, hn, List.find?_cons, hb]
      rfl
  · obtain ⟨⟨a, b, rfl⟩, ex, hn⟩ := pv
    rw [List.take_length] at hn
    rw [hold, hn] at q
    exact s_ret ev_c fun H2 e2 => q H2 (ex.trans e2)
theorem pure_Show_is_given (T : Txt K mg c) (vs : List V) (H : Hp) (Q : VK) (E : XK) (h : sp_Show_is_given K c vs H Q E) : t_Show_is_given K c { nx := fun _ H' => Q .non H', rt := Q } (start N_Show_is_given vs) H := by
  obtain ⟨z, ⟨n, s, g, w, x, k, v, rfl, rfl⟩, q⟩ := h
  obtain ⟨dx, hs⟩ := v.sa.ins
  unfold t_Show_is_given
  have small : x.gs.length ≤ 50000 := by
    have := v.small
    rw [← v.sa.gsE, List.length_map] at this
    omega
  have L := el_lcT (K := K) (σ := start N_Show_is_given [.ref x.a, .int (k : Nat)]) (H := H) (l := x.gs) (val := fun p => p.1) (v1 := fun p => .ref (g.at p.2.dog)) (v2 := fun p => .int (p.2.kind : Nat)) (i := 2) (j := 3) (vs := [2, 3]) (t := tYes) (te := tOp rEq (tVar 3) (tVar 1)) (fun _ => true) (fun p => V.bl (decide ((p.2.kind : Int) = (k : Int))))
    (ev_fld (ev_var (i := 0) rfl) hs T.cl_Show T.n_Show_given (lk_Show_given _ _ _ _ _)) (sq_of v.sa.lg) small (fun p hp => v.sa.gs p hp) (fun x y => rfl) (fun p H1 e hp => fun H2 _ Q q => q H2 (Ex.refl H2)) (fun p H1 e hp _ => ev_eqI (ev_var rfl) (ev_var rfl))
  have e : x.gs.map (fun p => V.bl (decide ((p.2.kind : Int) = (k : Int)))) = (x.gs.map fun p => decide ((p.2.kind : Int) = (k : Int))).map V.bl := by
    rw [List.map_map]
    rfl
  rw [List.filter_eq_self.mpr (fun _ _ => rfl), e] at L
  refine s_ret (ev_any L) fun H1 e1 => QV (q H1 e1) (congrArg V.bl ?_)
  rw [List.any_map, ← v.sa.gsE, List.any_map]
  refine congrArg (fun f => List.any x.gs f) (funext fun p => ?_)
  show (p.2.kind == k) = decide ((p.2.kind : Int) = (k : Int))
  by_cases h : p.2.kind = k
  · simp [h]
  · have h' : ¬ (p.2.kind : Int) = (k : Int) := by omega
    simp [h, h']
end
end Ds

/-! Who may have an award; what is kept of a show. -/
namespace Ds
open PySem PySem.Spec PyProof.Rows L2 Evl

theorem hold_non (g : GBook) (o : Option Nat) : decide (holdV g o = .non) = !o.isSome := by
  cases o with
  | none => rfl
  | some i => exact decide_eq_false (fun z => nomatch z)
theorem mem_two {k a b : Nat} : decide ((k : Int) ∈ ([(a : Int), (b : Int)] : List Int)) = decide (k = a ∨ k = b) := by
  have : ((k : Int) ∈ ([(a : Int), (b : Int)] : List Int)) ↔ (k = a ∨ k = b) := by
    rw [List.mem_cons, List.mem_singleton]
    omega
  by_cases h : k = a ∨ k = b
  · rw [decide_eq_true h, decide_eq_true (this.mpr h)]
  · rw [decide_eq_false h, decide_eq_false fun z => h (this.mp z)]
section
variable {K : PySem.W.Frag} {mg : Str → Option Value} {c : Cs} {vs : List V} {H : Hp} {Q : VK} {E : XK}
variable {σ : L2.St} {ta tb : TE}
theorem et_two {k a b : Nat} (ha : Ev ta σ H (.int k)) : EvT (tTest (tOp (rIn K false) ta (tTup (tCons (tC (.int (a : Nat))) (tCons (tC (.int (b : Nat))) tNil))))) σ H (decide (k = a ∨ k = b)) := by
  have r := et_test (ev_inI (K := K) (ns := [(a : Int), (b : Int)]) ha (eu_tup (vs := [.int (a : Nat), .int (b : Nat)]) (ea_cons ev_c (ea_cons ev_c ea_nil)) (by show 2 ≤ 100000; decide)))
  rw [mem_two] at r
  exact r
theorem ev_eqN {i j : Nat} (ha : Ev ta σ H (.int (i : Nat))) (hb : Ev tb σ H (.int (j : Nat))) : Ev (tOp rEq ta tb) σ H (.bl (decide (i = j))) := by
  have r := ev_eqI ha hb
  have : decide ((i : Int) = (j : Int)) = decide (i = j) := by
    by_cases h : i = j
    · rw [h]; simp
    · rw [decide_eq_false h, decide_eq_false (by omega)]
  rw [this] at r
  exact r
theorem RetL' {g : GBook} {l : List Nat} {Q : VK} {H : Hp} (q : ∀ p H', H p = none → Ex H H' → H' p = some (.lst (refs g l)) → Q (.ref p) H') {l' : List Nat} (e : l = l') {H1 : Hp} (e1 : Ex H H1) : ∀ p H2, H1 p = none → Ex H1 H2 → H2 p = some (.lst (refs g l')) → Q (.ref p) H2 := by
  subst e
  exact fun p H2 hp e2 h2 => q p H2 (fresh_back e1 hp) (e1.trans e2) h2
theorem pure_Show_may_have (T : Txt K mg c) (vs : List V) (H : Hp) (Q : VK) (E : XK) (h : sp_Show_may_have K c vs H Q E) : t_Show_may_have K c { nx := fun _ H' => Q .non H', rt := Q } (start N_Show_may_have vs) H := by
  obtain ⟨z, ⟨n, s, g, w, x, k, sx, v, hk, hsx, rfl, rfl⟩, q⟩ := h
  obtain ⟨dx, hs⟩ := v.sa.ins
  have gw := v.gw
  unfold t_Show_may_have
  have nil : ∀ {σ : L2.St} {H1 : Hp}, EvL (tLst tNil) σ H1 (refs g []) := fun {σ H1} => el_lst ea_nil (by show 0 ≤ 100000; decide)
  refine q_when (et_and (et_two (a := 4) (b := 5) (ev_var rfl)) fun _ => et_not (et_B (ev_fld (ev_var rfl) hs T.cl_Show T.n_Show_international (lk_Show_international _ _ _ _ _)))) (fun hb H1 e1 => s_retL nil (RetL' q ?_ e1)) (fun hb H1 e1 => ?_)
  · rw [Bool.and_eq_true] at hb
    exact may_wide gw (of_decide_eq_true hb.1) (by simpa using hb.2)
  have hw : k = 4 ∨ k = 5 → w.wide = true := fun z => by
    rw [decide_eq_true z, Bool.true_and] at hb
    simpa using hb
  have v1 := v.mono e1
  have hs1 := e1 _ _ hs
  refine q_when (et_two (a := 0) (b := 4) (ev_var rfl)) (fun hb H2 e2 => ?_) (fun hb H2 e2 => ?_)
  · have k04 := of_decide_eq_true hb
    have mc := may_cert (w := w) (s := s) (x := sx) k04 fun z => hw (.inl z)
    have v2 := v1.mono e2
    refine q_when (et_B (ev_notN (ev_meth (ev_var rfl) (e2 _ _ hs1) (nk_Show_holder _ _ _ _ _) (ea_cons (ev_var rfl) (ea_cons (ev_var rfl) ea_nil)) (v_holder v2 k sx)))) (fun hb H3 e3 => s_retL nil (RetL' q ?_ ((e1.trans e2).trans e3))) (fun hb H3 e3 => s_retL (el_meth (ev_var rfl) (e3 _ _ (e2 _ _ hs1)) (nk_Show_firsts _ _ _ _ _) (ea_cons (ev_var rfl) ea_nil) (v_firsts (v2.mono e3) sx)) (RetL' q ?_ ((e1.trans e2).trans e3)))
    · rw [hold_non, Bool.not_not] at hb
      rw [mc, if_pos hb]
    · rw [hold_non, Bool.not_not] at hb
      rw [mc, if_neg (by rw [hb]; decide)]
  have n04 := of_decide_eq_false hb
  have v2 := v1.mono e2
  have hs2 := e2 _ _ hs1
  refine q_when (et_two (a := 1) (b := 5) (ev_var rfl)) (fun hb H3 e3 => ?_) (fun hb H3 e3 => ?_)
  · have k15 := of_decide_eq_true hb
    exact s_retL (el_meth (ev_var rfl) (e3 _ _ hs2) (nk_Show_next_ones _ _ _ _ _) (ea_cons (ev_var rfl) (ea_cons (ev_var rfl) ea_nil)) (v_next (v2.mono e3) k15 hsx)) (RetL' q rfl ((e1.trans e2).trans e3))
  have n15 := of_decide_eq_false hb
  have v3 := v2.mono e3
  have hs3 := e3 _ _ hs2
  have e13 := (e1.trans e2).trans e3
  refine q_when (et_and (et_test (ev_eqN (j := 6) (ev_var rfl) ev_c)) fun _ => et_not (et_B (ev_meth (ev_var rfl) hs3 (nk_Show_is_given _ _ _ _ _) (ea_cons ev_c ea_nil) (v_given v3 6)))) (fun hb H4 e4 => ?_) (fun hb H4 e4 => ?_)
  · rw [Bool.and_eq_true] at hb
    have k6 : k = 6 := of_decide_eq_true hb.1
    subst k6
    have ng : (w.awards.any fun a => a.kind == 6) = false := by simpa using hb.2
    refine s_retL (el_meth (ev_var rfl) (e4 _ _ hs3) (nk_Show_bests _ _ _ _ _) (ea_cons (ev_var rfl) ea_nil) (v_bests (v3.mono e4) sx)) (RetL' q ?_ (e13.trans e4))
    rw [may_best gw, if_neg (by rw [ng]; decide)]
  have n6 : k = 6 → w.may s k sx = [] := fun z => by
    subst z
    have : (w.awards.any fun a => a.kind == 6) = true := by
      rw [decide_eq_true rfl, Bool.true_and] at hb
      simpa using hb
    rw [may_best gw, if_pos this]
  have v4 := v3.mono e4
  have hs4 := e4 _ _ hs3
  refine q_when (et_and (et_test (ev_eqN (j := 7) (ev_var rfl) ev_c)) fun _ => et_and (et_B (ev_notN (ev_meth (ev_var rfl) hs4 (nk_Show_holder _ _ _ _ _) (ea_cons ev_c (ea_cons (ev_is (ev_I0 ev_c (ev_var rfl)) (congrArg V.int (show (1 : Int) - (sx : Int) = ((1 - sx : Nat) : Int) by omega))) ea_nil)) (v_holder v4 6 (1 - sx))))) fun _ =>
    et_not (et_B (ev_meth (ev_var rfl) hs4 (nk_Show_is_given _ _ _ _ _) (ea_cons ev_c ea_nil) (v_given v4 7)))) (fun hb H5 e5 => ?_) (fun hb H5 e5 => s_retL nil (RetL' q ?_ ((e13.trans e4).trans e5)))
  · rw [Bool.and_eq_true, Bool.and_eq_true, hold_non, Bool.not_not] at hb
    have k7 : k = 7 := of_decide_eq_true hb.1
    subst k7
    have ng : (w.awards.any fun a => a.kind == 7) = false := by simpa using hb.2.2
    refine s_retL (el_meth (ev_var rfl) (e5 _ _ hs4) (nk_Show_bests _ _ _ _ _) (ea_cons (ev_var rfl) ea_nil) (v_bests (v4.mono e5) sx)) (RetL' q ?_ ((e13.trans e4).trans e5))
    rw [may_other_best gw v.gd.sex hsx, if_pos ⟨hb.2.1, ng⟩]
  · by_cases k7 : k = 7
    · subst k7
      rw [may_other_best gw v.gd.sex hsx]
      rw [decide_eq_true rfl, Bool.true_and, hold_non, Bool.not_not] at hb
      rw [if_neg]
      rintro ⟨a, b⟩
      rw [a, b] at hb
      cases hb
    · by_cases k6 : k = 6
      · exact n6 k6
      · exact may_other (by omega) (by omega) (by omega) (by omega) k6 k7
theorem pure_Show_next_ones (T : Txt K mg c) (vs : List V) (H : Hp) (Q : VK) (E : XK) (h : sp_Show_next_ones K c vs H Q E) : t_Show_next_ones K c { nx := fun _ H' => Q .non H', rt := Q } (start N_Show_next_ones vs) H := by
  obtain ⟨z, ⟨n, s, g, w, x, k, sx, v, hk, hsx, rfl, rfl⟩, q⟩ := h
  obtain ⟨dx, hs⟩ := v.sa.ins
  have gw := v.gw
  unfold t_Show_next_ones
  have mn := may_next (w := w) (s := s) (x := sx) hk
  refine q_asg (ev_meth (ev_var rfl) hs (nk_Show_holder _ _ _ _ _) (ea_cons (ev_is (ev_I0 (ev_var rfl) ev_c) (congrArg V.int (show (k : Int) - 1 = ((k - 1 : Nat) : Int) by omega))) (ea_cons (ev_var rfl) ea_nil)) (v_holder v (k - 1) sx)) fun H1 e1 => ?_
  have v1 := v.mono e1
  have hs1 := e1 _ _ hs
  refine q_when (et_or (et_B (ev_isN (ev_var rfl))) fun _ => et_B (ev_notN (ev_meth (ev_var rfl) hs1 (nk_Show_holder _ _ _ _ _) (ea_cons (ev_var rfl) (ea_cons (ev_var rfl) ea_nil)) (v_holder v1 k sx)))) (fun hb H2 e2 => s_retL (el_lst ea_nil (by decide)) (RetL' (l' := []) q ?_ (e1.trans e2))) (fun hb H2 e2 => ?_)
  · rw [hold_non, hold_non, Bool.not_not] at hb
    rw [mn]
    cases h1 : w.holder s (k - 1) sx with
    | none => rfl
    | some a =>
      cases h2 : w.holder s k sx with
      | none => rw [h1, h2] at hb; cases hb
      | some b => rfl
  rw [hold_non, hold_non, Bool.not_not] at hb
  cases h2 : w.holder s k sx with
  | some b => rw [h2, Option.isSome_some, Bool.or_true] at hb; cases hb
  | none =>
    cases h1 : w.holder s (k - 1) sx with
    | none => rw [h1] at hb; cases hb
    | some a =>
      rw [h1, h2] at mn
      have mn' : w.may s k sx = w.nexts sx a := mn
      have k1 : k - 1 = 0 ∨ k - 1 = 4 := by omega
      obtain ⟨ha, en, hen, _⟩ := holder_entry gw k1 h1
      have v2 := v1.mono e2
      have hs2 := e2 _ _ hs1
      obtain ⟨da, wa, hda⟩ := v2.dog ha
      refine q_asgL (el_lcN (l := w.firsts sx) (val := fun i => V.ref (g.at i)) (fun i => !decide ((i : Int) = (a : Int))) (fun i => V.ref (g.at i)) (el_meth (ev_var rfl) hs2 (nk_Show_firsts _ _ _ _ _) (ea_cons (ev_var rfl) ea_nil) (v_firsts v2 sx)) (by have := @firsts_len w sx; omega) (fun y => rfl)
        (fun i H3 e3 hi => by
          obtain ⟨di, wi, hdi⟩ := v2.dog (firsts_entry gw hi).1
          exact et_test (ev_neI (ev_fld (ev_var rfl) (e3 _ _ hdi) T.cl_Dog T.n_Dog_number (lk_Dog_number _ _ _)) (ev_fld (a := g.at a) (ev_var rfl) (e3 _ _ hda) T.cl_Dog T.n_Dog_number (lk_Dog_number _ _ _))))
        (fun i H3 e3 hi _ => ev_var rfl)) fun l H3 hl e3 h3 => ?_
      have v3 := v2.mono e3
      have hs3 := e3 _ _ hs2
      have fe : (w.firsts sx).filter (fun i : Nat => !decide ((i : Int) = (a : Int))) = (w.firsts sx).filter fun j => j != a := by
        refine List.filter_congr fun i _ => ?_
        by_cases z : i = a
        · simp [z]
        · have z' : ¬ (i : Int) = (a : Int) := by omega
          simp [z, z']
      rw [fe] at h3
      have ce : clsOf w a = (en.class_ : Nat) := by unfold clsOf; rw [hen]
      have sm := @firsts_len w sx
      have sm2 := List.length_filter_le (fun j => j != a) (w.firsts sx)
      have sm3 := @placed_len w en.class_ sx 1
      refine s_retL (el_catV (xs := refs g ((w.firsts sx).filter fun j => j != a)) (ev_var rfl) h3 (el_meth (ev_var rfl) hs3 (nk_Show_placed _ _ _ _ _) (ea_cons (ev_is (ev_meth (ev_var rfl) hs3 (nk_Show_class_of _ _ _ _ _) (ea_cons (x := .ref (g.at a)) (ev_var rfl) ea_nil) (v_class v3 ha)) (congrArg V.int ce)) (ea_cons (ev_var rfl) (ea_cons ev_c ea_nil))) (v_placed v3 en.class_ sx 1)) (by
        unfold refs
        rw [List.length_map, List.length_map]
        omega)) ?_
      have fin : refs g ((w.firsts sx).filter fun j => j != a) ++ refs g (placed w en.class_ sx 1) = refs g (w.may s k sx) := by
        rw [mn', nexts_eq hen]
        unfold refs
        rw [List.map_append]
      rw [fin]
      exact RetL' q rfl ((e1.trans e2).trans e3)
theorem pure_Show_bests (T : Txt K mg c) (vs : List V) (H : Hp) (Q : VK) (E : XK) (h : sp_Show_bests K c vs H Q E) : t_Show_bests K c { nx := fun _ H' => Q .non H', rt := Q } (start N_Show_bests vs) H := by
  obtain ⟨z, ⟨n, s, g, w, x, sx, v, rfl, rfl⟩, q⟩ := h
  obtain ⟨dx, hs⟩ := v.sa.ins
  unfold t_Show_bests
  refine q_asgL (el_lst ea_nil (by decide)) fun l H1 hl e1 h1 => ?_
  refine q_asg (ev_meth (ev_var rfl) (e1 _ _ hs) (nk_Show_holder _ _ _ _ _) (ea_cons ev_c (ea_cons (ev_var rfl) ea_nil)) (v_holder (v.mono e1) 0 sx)) fun H2 e2 => ?_
  have e12 := e1.trans e2
  have hl2 := e2 _ _ h1
  have rest : ∀ H3, Ex H H3 → H3 l = some (.lst (refs g (w.holder s 0 sx).toList)) → tSeq (tDrop (tBM K "list" rExtend (tVar 2) (tCons (tMeth c.C_Show "placed" (sp_Show_placed K c) [] E0 (tVar 0) (tCons (tC (.int 1)) (tCons (tVar 1) (tCons (tC (.int 0)) tNil)))) tNil)))
      (tSeq (tDrop (tBM K "list" rExtend (tVar 2) (tCons (tMeth c.C_Show "placed" (sp_Show_placed K c) [] E0 (tVar 0) (tCons (tC (.int 6)) (tCons (tVar 1) (tCons (tC (.int 0)) tNil)))) tNil))) (tRet (tVar 2))) { nx := fun _ H' => Q .non H', rt := Q } [some (.ref x.a), some (.int (sx : Nat)), some (.ref l), some (holdV g (w.holder s 0 sx))] H3 := fun H3 e3 h3 => by
    have s0 : (w.holder s 0 sx).toList.length ≤ 1 := by cases w.holder s 0 sx <;> simp
    have s1 := @placed_len w 1 sx 0
    have s6 := @placed_len w 6 sx 0
    refine q_ext (xs := refs g (w.holder s 0 sx).toList) (zs := refs g (placed w 1 sx 0)) h3 (ev_var rfl) (el_meth (ev_var rfl) (e3 _ _ hs) (nk_Show_placed _ _ _ _ _) (ea_cons ev_c (ea_cons (ev_var rfl) (ea_cons ev_c ea_nil))) (v_placed (v.mono e3) 1 sx 0)) (by unfold refs; rw [List.length_map, List.length_map]; omega) fun H4 e4 => ?_
    have e4' : Ex H (upd H4 l (.lst (refs g (w.holder s 0 sx).toList ++ refs g (placed w 1 sx 0)))) := (e3.trans e4).mut hl
    refine q_ext (xs := refs g (w.holder s 0 sx).toList ++ refs g (placed w 1 sx 0)) (zs := refs g (placed w 6 sx 0)) upd_same (ev_var rfl) (el_meth (ev_var rfl) (e4' _ _ hs) (nk_Show_placed _ _ _ _ _) (ea_cons ev_c (ea_cons (ev_var rfl) (ea_cons ev_c ea_nil))) (v_placed (v.mono e4') 6 sx 0)) (by unfold refs; rw [List.length_append, List.length_map, List.length_map, List.length_map]; omega) fun H5 e5 => ?_
    refine s_ret (ev_var rfl) fun H6 e6 => q l H6 hl (((e4'.trans e5).mut hl).trans e6) ?_
    rw [e6 _ _ upd_same, finalists_eq]
    unfold refs
    rw [List.map_append, List.map_append, List.append_assoc]
  cases hh : w.holder s 0 sx with
  | none =>
    rw [hh] at rest
    refine q_when (b := false) (et_B (ev_notN (x := .non) (ev_var rfl))) (fun hb => nomatch hb) (fun hb H3 e3 => rest H3 (e12.trans e3) (e3 _ _ hl2))
  | some a =>
    rw [hh] at rest
    refine q_when (b := true) (et_B (ev_notN (x := .ref (g.at a)) (ev_var rfl))) (fun hb H3 e3 => ?_) (fun hb => nomatch hb)
    exact s_app (xs := []) (v := .ref (g.at a)) (e3 _ _ hl2) (ev_var rfl) (ev_var rfl) (by show 0 < 100000; decide) fun H4 e4 => rest _ (((e12.trans e3).trans e4).mut hl) upd_same
theorem pure_Show_counts_as (T : Txt K mg c) (vs : List V) (H : Hp) (Q : VK) (E : XK) (h : sp_Show_counts_as K c vs H Q E) : t_Show_counts_as K c { nx := fun _ H' => Q .non H', rt := Q } (start N_Show_counts_as vs) H := by
  obtain ⟨z, ⟨n, s, g, w, x, a, v, ha, rfl, rfl⟩, q⟩ := h
  obtain ⟨dx, hs⟩ := v.sa.ins
  have gw := v.gw
  obtain ⟨dd, wd, hd⟩ := v.dog (gw.aDog a ha).1
  unfold t_Show_counts_as
  have held : ∀ kind, (kind = 0 ∨ kind = 4) → (w.holder s kind (s.dog a.dog).sex).isSome = true → ∃ h, w.holder s kind (s.dog a.dog).sex = some h ∧ h < s.dogs.length := fun kind hk hi => by
    cases e : w.holder s kind (s.dog a.dog).sex with
    | none => rw [e] at hi; cases hi
    | some h => exact ⟨h, rfl, (holder_entry gw hk e).1⟩
  have t1 : EvT (tAnd (tTest (tOp rEq (tVar 2) (tC (.int 1)))) (tB (tMeth c.C_Dog "is_champion" (sp_Dog_is_champion K c) [] E0 (tMeth c.C_Show "holder" (sp_Show_holder K c) [] E0 (tVar 0) (tCons (tC (.int 0)) (tCons (tFld K (tVar 1) "sex") tNil))) tNil))) [some (.ref x.a), some (.ref (g.at a.dog)), some (.int (a.kind : Nat))] H
      (decide (a.kind = 1) && decide ((w.holder s 0 (s.dog a.dog).sex).map (fun h => Kg73.champion s.kept h) = some true)) := by
    refine et_and (et_test (ev_eqN (j := 1) (ev_var rfl) ev_c)) fun hk => ?_
    obtain ⟨h, hh, hlt⟩ := held 0 (.inl rfl) (gw.aOne a ha (of_decide_eq_true hk))
    obtain ⟨gd, _, eg, D⟩ := v.bk.dog hlt
    obtain ⟨dh, hdh⟩ := D.ins
    have r := et_B (ev_meth (E := E0) (ev_is (ev_meth (E := E0) (ev_var (i := 0) (σ := [some (.ref x.a), some (.ref (g.at a.dog)), some (.int (a.kind : Nat))]) rfl) hs (nk_Show_holder _ _ _ _ _) (ea_cons (ev_c (v := .int ((0 : Nat) : Int))) (ea_cons (ev_fld (ev_var (i := 1) rfl) hd T.cl_Dog T.n_Dog_sex (lk_Dog_sex _ _ _)) ea_nil)) (v_holder (K := K) v 0 (s.dog a.dog).sex)) (show holdV g (w.holder s 0 (s.dog a.dog).sex) = .ref gd.a by rw [hh, ← eg]; rfl)) hdh (nk_Dog_is_champion _ _ _) ea_nil (v_champion (K := K) D (kept_small v.gd v.n250 h)))
    rw [of_champion] at r
    have be : decide ((w.holder s 0 (s.dog a.dog).sex).map (fun h => Kg73.champion s.kept h) = some true) = Kg73.champion s.kept h := by
      rw [hh]
      show decide (some (Kg73.champion s.kept h) = some true) = _
      cases Kg73.champion s.kept h <;> rfl
    rw [be]
    exact r
  have t2 : ∀ {H : Hp}, Vw c H n s g w x → EvT (tAnd (tTest (tOp rEq (tVar 2) (tC (.int 5)))) (tB (tMeth c.C_Dog "is_international" (sp_Dog_is_international K c) [] E0 (tMeth c.C_Show "holder" (sp_Show_holder K c) [] E0 (tVar 0) (tCons (tC (.int 4)) (tCons (tFld K (tVar 1) "sex") tNil))) tNil))) [some (.ref x.a), some (.ref (g.at a.dog)), some (.int (a.kind : Nat))] H
      (decide (a.kind = 5) && decide ((w.holder s 4 (s.dog a.dog).sex).map (fun h => Kg73.wideChampion s.kept (s.dog h) h) = some true)) := fun {H} v => by
    obtain ⟨dx, hs⟩ := v.sa.ins
    obtain ⟨dd, wd, hd⟩ := v.dog (gw.aDog a ha).1
    refine et_and (et_test (ev_eqN (j := 5) (ev_var rfl) ev_c)) fun hk => ?_
    obtain ⟨h, hh, hlt⟩ := held 4 (.inr rfl) (gw.aFive a ha (of_decide_eq_true hk))
    obtain ⟨gd, _, eg, D⟩ := v.bk.dog hlt
    obtain ⟨dh, hdh⟩ := D.ins
    have r := et_B (ev_meth (E := E0) (ev_is (ev_meth (E := E0) (ev_var (i := 0) (σ := [some (.ref x.a), some (.ref (g.at a.dog)), some (.int (a.kind : Nat))]) rfl) hs (nk_Show_holder _ _ _ _ _) (ea_cons (ev_c (v := .int ((4 : Nat) : Int))) (ea_cons (ev_fld (ev_var (i := 1) rfl) hd T.cl_Dog T.n_Dog_sex (lk_Dog_sex _ _ _)) ea_nil)) (v_holder (K := K) v 4 (s.dog a.dog).sex)) (show holdV g (w.holder s 4 (s.dog a.dog).sex) = .ref gd.a by rw [hh, ← eg]; rfl)) hdh (nk_Dog_is_international _ _ _) ea_nil (v_wide (K := K) D (kept_small v.gd v.n250 h)))
    rw [of_champion] at r
    have be : decide ((w.holder s 4 (s.dog a.dog).sex).map (fun h => Kg73.wideChampion s.kept (s.dog h) h) = some true) = Kg73.wideChampion s.kept (s.dog h) h := by
      rw [hh]
      show decide (some (Kg73.wideChampion s.kept (s.dog h) h) = some true) = _
      cases Kg73.wideChampion s.kept (s.dog h) h <;> rfl
    rw [be]
    exact r
  unfold upKind at q
  refine q_when t1 (fun hb H1 e1 => s_ret ev_c fun H2 e2 => ?_) (fun hb H1 e1 => q_when (t2 (v.mono e1)) (fun hb2 H2 e2 => s_ret ev_c fun H3 e3 => ?_) (fun hb2 H2 e2 => s_ret (ev_var rfl) fun H3 e3 => ?_))
  · rw [Bool.and_eq_true, decide_eq_true_eq, decide_eq_true_eq] at hb
    rw [if_pos hb] at q
    exact q H2 (e1.trans e2)
  · rw [Bool.and_eq_false_iff, decide_eq_false_iff_not, decide_eq_false_iff_not] at hb
    rw [Bool.and_eq_true, decide_eq_true_eq, decide_eq_true_eq] at hb2
    rw [if_neg (fun z => hb.elim (fun y => y z.1) fun y => y z.2), if_pos hb2] at q
    exact q H3 ((e1.trans e2).trans e3)
  · rw [Bool.and_eq_false_iff, decide_eq_false_iff_not, decide_eq_false_iff_not] at hb hb2
    rw [if_neg (fun z => hb.elim (fun y => y z.1) fun y => y z.2), if_neg (fun z => hb2.elim (fun y => y z.1) fun y => y z.2)] at q
    exact q H3 ((e1.trans e2).trans e3)

/-! ### what is kept of a show -/
def upA (s : Kg73.State) (w : Kg73.Show) (a : Kg73.Award) : Kg73.Award := { a with kind := upKind s w a }
def ownA (w : Kg73.Show) (k i : Nat) : Kg73.Award := ⟨i, k, w.day, w.judge, w.country⟩
def ownOf (w : Kg73.Show) (sx : Nat) : List Kg73.Award := (placed w 1 sx 0).map (ownA w 2) ++ (placed w 6 sx 0).map (ownA w 3)
theorem closed_eq (s : Kg73.State) (w : Kg73.Show) : s.closed w = ([0, 1] : List Nat).flatMap (ownOf w) ++ w.awards.map (upA s w) := by
  unfold Kg73.State.closed
  have key : ∀ {a b a' b' : List Kg73.Award}, a = a' → b = b' → a ++ b = a' ++ b' := fun e1 e2 => by rw [e1, e2]
  refine key ?_ (List.map_congr_left fun a _ => ?_)
  · refine congrArg (fun f => List.flatMap f ([0, 1] : List Nat)) (funext fun sx => ?_)
    unfold ownOf
    rw [placed_best, placed_best]
    rfl
  · unfold upA upKind
    split
    · rfl
    · split
      · rfl
      · rfl
/-- l stands at p as a new list of new pairs -/
structure KA (g : GBook) (H : Hp) (p : Addr) (G : List (Addr × Kg73.Award)) (H' : Hp) : Prop where
  ex : Ex H H'
  lst : H' p = some (.lst (G.map fun q => V.ref q.1))
  tup : ∀ q ∈ G, H' q.1 = some (.tup [.ref (g.at q.2.dog), .int (q.2.kind : Nat)])
theorem KA.mono {g : GBook} {H H' H'' : Hp} {p : Addr} {G : List (Addr × Kg73.Award)} (k : KA g H p G H') (e : Ex H' H'') : KA g H p G H'' := ⟨k.ex.trans e, e _ _ k.lst, fun q hq => e _ _ (k.tup q hq)⟩
theorem KA.add {g : GBook} {H H' H'' : Hp} {p t : Addr} {G : List (Addr × Kg73.Award)} {a : Kg73.Award} (k : KA g H p G H') (hp : H p = none) (e : Ex H' H'') (ht : H'' t = some (.tup [.ref (g.at a.dog), .int (a.kind : Nat)])) :
    KA g H p (G ++ [(t, a)]) (upd H'' p (.lst ((G.map fun q => V.ref q.1) ++ [.ref t]))) := by
  have k' := k.mono e
  have ne : ∀ {q : Addr} {xs : List V}, H'' q = some (.tup xs) → q ≠ p := fun {q xs} h => ne_of h k'.lst (fun z => nomatch z)
  refine ⟨k'.ex.mut hp, ?_, fun q hq => ?_⟩
  · rw [upd_same, List.map_append]
    rfl
  · rcases List.mem_append.mp hq with hq | hq
    · rw [upd_ne (ne (k'.tup q hq))]
      exact k'.tup q hq
    · have e : q = (t, a) := by simpa using hq
      subst e
      rw [upd_ne (ne ht)]
      exact ht
end
end Ds

/-! What is kept of a show: the walk. -/
namespace Ds
open PySem PySem.Spec PyProof.Rows L2 Evl
section
variable {K : PySem.W.Frag} {mg : Str → Option Value} {c : Cs} {vs : List V} {H : Hp} {Q : VK} {E : XK}
theorem q_forU {xs : List V} {tl : TE} {σ : L2.St} {H : Hp} {D : Ends} {tu tz : TS} {gt : TG} (h : EvU tl σ H xs) (Pv : Addr → Nat → L2.St → Hp → Prop) (h0 : ∀ p H1, H p = none → Ex H H1 → H1 p = some (.tup xs) → Pv p 0 σ H1) (hl : ∀ p i σ' H', i ≤ xs.length → Pv p i σ' H' → SqT K H' p xs)
    (hs : ∀ p i x σ' H', xs[i]? = some x → Pv p i σ' H' → gt x σ' H' fun σ2 H2 => tu { D with nx := Pv p (i + 1), ct := Pv p (i + 1), bk := tz D } σ2 H2) (hd : ∀ p σ' H', Pv p xs.length σ' H' → tz D σ' H') : tSeq (tFor (iTup K tl) gt tu) tz D σ H :=
  h H (Ex.refl H) _ fun p H1 hp e h1 => ⟨p, rfl, ⟨xs, st_of h1⟩, for_tup (D := { D with nx := tz D }) (Pv p) (h0 p H1 hp e h1) (hl p) (hs p) (hd p)⟩
/-- out.append((dog, kind)) for the dogs at a place -/
theorem ka_loop (T : Txt K mg c) {n : Nat} {s : Kg73.State} {g : GBook} {w : Kg73.Show} {x : GShow} {H H' : Hp} (v : Vw c H n s g w x) {D : Ends} {p : Addr} {G : List (Addr × Kg73.Award)} (k m sx : Nat) (hp : H p = none) (ka : KA g H p G H') (hG : G.length ≤ 300) {a b : Option V}
    (cont : ∀ a' G' H'', G'.map (·.2) = G.map (·.2) ++ (placed w k sx 0).map (ownA w m) → KA g H p G' H'' → (∀ t ys, H' t = some (.tup ys) → H'' t = some (.tup ys)) → D.nx [some (.ref x.a), some (.ref p), some (.int (sx : Nat)), a', b] H'') :
    tFor (iList K (tMeth c.C_Show "placed" (sp_Show_placed K c) [] E0 (tVar 0) (tCons (tC (.int (k : Nat))) (tCons (tVar 2) (tCons (tC (.int 0)) tNil))))) (gName 3) (tDrop (tBM K "list" rAppend (tVar 1) (tCons (tTup (tCons (tVar 3) (tCons (tC (.int (m : Nat))) tNil))) tNil))) D
      [some (.ref x.a), some (.ref p), some (.int (sx : Nat)), a, b] H' := by
  obtain ⟨dx, hs⟩ := v.sa.ins
  refine s_forNL (xs := refs g (placed w k sx 0)) (el_meth (ev_var rfl) (ka.ex _ _ hs) (nk_Show_placed _ _ _ _ _) (ea_cons ev_c (ea_cons (ev_var rfl) (ea_cons ev_c ea_nil))) (v_placed (v.mono ka.ex) k sx 0))
    (fun r i σ' H'' => r ≠ p ∧ H'' r = some (.lst (refs g (placed w k sx 0))) ∧ (∃ a', σ' = [some (.ref x.a), some (.ref p), some (.int (sx : Nat)), a', b]) ∧ ∃ G', G'.map (·.2) = G.map (·.2) ++ ((placed w k sx 0).take i).map (ownA w m) ∧ KA g H p G' H'' ∧ ∀ t ys, H' t = some (.tup ys) → H'' t = some (.tup ys))
    (fun r H1 hr e1 h1 => ⟨Ne.symm (ne_of_none ka.lst hr), h1, ⟨a, rfl⟩, G, by simp, ka.mono e1, fun t ys e => e1 _ _ e⟩) (fun r i σ' H'' _ pv => sq_of pv.2.1) (fun r i y σ' H'' hi pv => ?_) (fun r σ' H'' pv => ?_)
  · obtain ⟨hrp, hr, ⟨a', rfl⟩, G', hG', ka', tp⟩ := pv
    obtain ⟨j, hj, rfl⟩ := map_at hi
    have len : G'.length ≤ 301 := by
      have q := congrArg List.length hG'
      rw [List.length_map, List.length_append, List.length_map, List.length_map, List.length_take] at q
      have := @placed_len w k sx 0
      omega
    refine s_appU (ys := [.ref (g.at j), .int (m : Nat)]) ka'.lst (ev_var rfl) (eu_tup (ea_cons (ev_var rfl) (ea_cons ev_c ea_nil)) (by show 2 ≤ 100000; decide)) (by rw [List.length_map]; omega) fun t H1 ht e1 h1 => ?_
    refine ⟨hrp, ?_, ⟨_, rfl⟩, G' ++ [(t, ownA w m j)], ?_, ka'.add hp e1 h1, fun u ys e => ?_⟩
    · rw [upd_ne hrp]
      exact e1 _ _ hr
    · rw [List.map_append, hG', take_snoc hj, List.map_append, List.append_assoc]
      rfl
    · rw [upd_ne (ne_of (tp u ys e) ka'.lst (fun z => nomatch z))]
      exact e1 _ _ (tp u ys e)
  · obtain ⟨_, _, ⟨a', rfl⟩, G', hG', ka', tp⟩ := pv
    refine cont a' G' H'' ?_ ka' tp
    rw [hG']
    unfold refs
    rw [List.length_map, List.take_length]
theorem own_len (w : Kg73.Show) (sx : Nat) : (ownOf w sx).length ≤ 2 := by
  unfold ownOf
  rw [List.length_append, List.length_map, List.length_map]
  have := @placed_len w 1 sx 0
  have := @placed_len w 6 sx 0
  omega
theorem pure_Show_kept_awards (T : Txt K mg c) (vs : List V) (H : Hp) (Q : VK) (E : XK) (h : sp_Show_kept_awards K c vs H Q E) : t_Show_kept_awards K c { nx := fun _ H' => Q .non H', rt := Q } (start N_Show_kept_awards vs) H := by
  obtain ⟨n, s, g, w, x, v, rfl, q⟩ := h
  obtain ⟨dx, hs⟩ := v.sa.ins
  unfold t_Show_kept_awards
  have sm := v.small
  refine q_asgL (el_lst ea_nil (by decide)) fun p H1 hp e1 h1 => ?_
  have ka0 : KA g H p [] H1 := ⟨e1, h1, fun q hq => nomatch hq⟩
  refine q_forU (xs := ([0, 1] : List Nat).map fun k : Nat => V.int k) (eu_tup (vs := [.int 0, .int 1]) (ea_cons ev_c (ea_cons ev_c ea_nil)) (by show 2 ≤ 100000; decide))
    (fun t i σ' H' => H' t = some (.tup (([0, 1] : List Nat).map fun k : Nat => V.int k)) ∧ (∃ a b, σ' = [some (.ref x.a), some (.ref p), a, b, none]) ∧ ∃ G, G.map (·.2) = (([0, 1] : List Nat).take i).flatMap (ownOf w) ∧ KA g H p G H')
    (fun t H2 ht e2 h2 => ⟨h2, ⟨none, none, rfl⟩, [], rfl, ka0.mono e2⟩) (fun t i σ' H' _ pv => st_of pv.1) (fun t i y σ' H' hi pv => ?_) (fun t σ' H' pv => ?_)
  · obtain ⟨ht, ⟨a, b, rfl⟩, G, hG, ka⟩ := pv
    obtain ⟨sx, hsx, rfl⟩ := map_at hi
    have lim : i < 2 := by
      have := (List.getElem?_eq_some_iff.mp hsx).1
      simpa using this
    have lG : G.length ≤ 4 := by
      have q := congrArg List.length hG
      rw [List.length_map] at q
      have o0 := own_len w 0
      have o1 := own_len w 1
      have c2 : i = 0 ∨ i = 1 := by omega
      rcases c2 with rfl | rfl
      · have q0 : G.length = 0 := by simpa using q
        omega
      · have q1 : G.length = (ownOf w 0).length := by simpa using q
        omega
    refine ka_loop T v (D := { nx := _, rt := _, bk := _, ct := _ }) 1 2 sx hp ka (by omega) fun a' G1 H2 hG1 ka1 tp1 => ?_
    have l1 : G1.length ≤ 5 := by
      have q := congrArg List.length hG1
      rw [List.length_map, List.length_append, List.length_map, List.length_map] at q
      have := @placed_len w 1 sx 0
      omega
    refine ka_loop T v 6 3 sx hp ka1 (by omega) fun a2 G2 H3 hG2 ka2 tp2 => ⟨tp2 _ _ (tp1 _ _ ht), ⟨_, _, rfl⟩, G2, ?_, ka2⟩
    · rw [hG2, hG1, hG, take_snoc hsx, List.flatMap_append, List.append_assoc]
      simp [ownOf]
  · obtain ⟨ht, ⟨a, b, rfl⟩, G, hG, ka⟩ := pv
    have hG0 : G.map (·.2) = ([0, 1] : List Nat).flatMap (ownOf w) := by rw [hG, List.length_map, List.take_length]
    have lG : G.length ≤ 4 := by
      have q := congrArg List.length hG0
      rw [List.length_map] at q
      have o0 := own_len w 0
      have o1 := own_len w 1
      have q1 : G.length = (ownOf w 0).length + (ownOf w 1).length := by simpa using q
      omega
    refine q_forM (l := x.gs) (val := fun p => V.ref p.1) (ev_fld (ev_var rfl) (ka.ex _ _ hs) T.cl_Show T.n_Show_given (lk_Show_given _ _ _ _ _)) (sq_of (ka.ex _ _ v.sa.lg))
      (fun i σ'' H'' => (∃ a b d, σ'' = [some (.ref x.a), some (.ref p), a, b, d]) ∧ ∃ G', G'.map (·.2) = G.map (·.2) ++ (x.gs.take i).map (fun p => upA s w p.2) ∧ KA g H p G' H'')
      (fun H2 e2 => ⟨⟨_, _, _, rfl⟩, G, by simp, ka.mono e2⟩) (fun i σ'' H'' pv => let ⟨_, _, _, k⟩ := pv; sq_of (k.ex _ _ v.sa.lg)) (fun i y σ'' H'' hi pv => ?_) (fun σ'' H'' pv => ?_)
    · obtain ⟨⟨a1, b1, d1, rfl⟩, G', hG', ka'⟩ := pv
      have hy : y ∈ x.gs := List.mem_of_getElem? hi
      have ya : y.2 ∈ w.awards := by
        rw [← v.sa.gsE]
        exact List.mem_map.mpr ⟨y, hy, rfl⟩
      have len : G'.length ≤ 300 := by
        have q := congrArg List.length hG'
        rw [List.length_map, List.length_append, List.length_map, List.length_map, List.length_take] at q
        have q2 : x.gs.length = w.awards.length := by rw [← v.sa.gsE, List.length_map]
        omega
      refine g_pair (ka'.ex _ _ (v.sa.gs y hy)) ?_
      refine s_appU (ys := [.ref (g.at y.2.dog), .int (upKind s w y.2 : Nat)]) ka'.lst (ev_var rfl) (eu_tup (ea_cons (ev_var rfl) (ea_cons (ev_meth (ev_var rfl) (ka'.ex _ _ hs) (nk_Show_counts_as _ _ _ _ _) (ea_cons (ev_var rfl) (ea_cons (ev_var rfl) ea_nil)) (v_counts (v.mono ka'.ex) ya)) ea_nil)) (by show 2 ≤ 100000; decide)) (by rw [List.length_map]; omega) fun t H1 ht e1 h1 => ?_
      refine ⟨⟨_, _, _, rfl⟩, G' ++ [(t, upA s w y.2)], ?_, ka'.add hp e1 h1⟩
      rw [List.map_append, hG', take_snoc hi, List.map_append, List.append_assoc]
      rfl
    · obtain ⟨⟨a1, b1, d1, rfl⟩, G', hG', ka'⟩ := pv
      refine s_ret (ev_var rfl) fun H2 e2 => q p H2 G' hp (ka'.ex.trans e2) ?_ (e2 _ _ ka'.lst) (fun r hr => e2 _ _ (ka'.tup r hr))
      rw [hG', hG0, closed_eq, List.take_length, ← v.sa.gsE, List.map_map]
      rfl
end
end Ds

/-! The book's calls: refusals, the show that is on, what is only read. -/
namespace Ds
open PySem PySem.Spec PyProof.Rows L2 Evl

theorem Refused.mono {c : Cs} {H H' : Hp} {E : XK} {v : Int} (h : Refused c H E v) (e : Ex H H') : Refused c H' E v := fun d H2 e2 hd => h d H2 (e.trans e2) hd
theorem isDog_nat {s : Kg73.State} {z : Int} (h : Kg73.isDog s z = true) : ∃ i : Nat, z = (i : Int) ∧ z.toNat = i ∧ i < s.dogs.length := by
  unfold Kg73.isDog at h
  rw [Bool.and_eq_true, decide_eq_true_eq, decide_eq_true_eq] at h
  exact ⟨z.toNat, by omega, rfl, by omega⟩
theorem within_nat {z : Int} {lo hi : Nat} (h : Kg73.within z lo hi = true) : ∃ i : Nat, z = (i : Int) ∧ z.toNat = i ∧ lo ≤ i ∧ i ≤ hi := by
  unfold Kg73.within at h
  rw [Bool.and_eq_true, decide_eq_true_eq, decide_eq_true_eq] at h
  exact ⟨z.toNat, by omega, rfl, by omega, by omega⟩

section
variable {K : PySem.W.Frag} {mg : Str → Option Value} {c : Cs} {vs : List V} {H H0 : Hp} {Q : VK} {E : XK} {σ : L2.St} {D : Ends} {tz : TS} {te tn ta tb : TE}
/-- refuse_if(test, number) -/
theorem q_refuse {b : Bool} {v : Int} (e : Ex H0 H) (h : Ev te σ H (.bl b)) (hn : Ev tn σ H (.int v)) (h1 : b = true → Refused c H0 E v) (h2 : b = false → ∀ H1, Ex H H1 → tz D σ H1) :
    tSeq (tDrop (tCall (sp_refuse_if K c) [] E (tCons te (tCons tn tNil)))) tz D σ H := h H (Ex.refl H) _ fun H1 e1 => hn H1 e1 _ fun H2 e2 =>
  ⟨b, v, rfl, fun hb => (h1 hb).mono (e.trans (e1.trans e2)), fun hb => h2 hb H2 (e1.trans e2)⟩
variable {n : Nat} {s : Kg73.State} {g : GBook}
theorem v_has (B : BookAt c H n s g) (i : Int) : SpV (sp_Book_has_dog K c) [.ref g.b, .int i] H (.bl (Kg73.isDog s i)) := spV_of fun H1 e => ⟨n, s, g, i, B.mono e, rfl, rfl⟩
theorem ev_has {i : Int} {N : XK} (B : BookAt c H n s g) (ha : Ev ta σ H (.ref g.b)) (hb : Ev tb σ H (.int i)) : Ev (tMeth c.C_Book "has_dog" (sp_Book_has_dog K c) [] N ta (tCons tb tNil)) σ H (.bl (Kg73.isDog s i)) := by
  obtain ⟨dx, hi⟩ := B.ins
  exact ev_meth ha hi (nk_Book_has_dog _ _ _) (ea_cons hb ea_nil) (v_has B i)
theorem ev_dogs (T : Txt K mg c) (B : BookAt c H n s g) (ha : Ev ta σ H (.ref g.b)) : Ev (tFld K ta "dogs") σ H (.ref g.ld) := by
  obtain ⟨dx, hi⟩ := B.ins
  exact ev_fld ha hi T.cl_Book T.n_Book_dogs (lk_Book_dogs _ _ _)
theorem ds_at (B : BookAt c H n s g) {i : Nat} (hi : i < s.dogs.length) : (g.ds.map fun d => V.ref d.a)[i]? = some (.ref (g.at i)) := by
  obtain ⟨x, hx, e, _⟩ := B.dog hi
  rw [List.getElem?_map, hx, e]
  rfl
/-- self.dogs[number] -/
theorem ev_dog (T : Txt K mg c) (B : BookAt c H n s g) {i : Nat} (hi : i < s.dogs.length) (ha : Ev ta σ H (.ref g.b)) (hb : Ev tb σ H (.int (i : Nat))) : Ev (tOp (rIxL K) (tFld K ta "dogs") tb) σ H (.ref (g.at i)) :=
  ev_op (ev_dogs T B ha) hb (rv_ixL (sq_of B.ld) (atI_nat (ds_at B hi)))
/-- show = self.show_on() -/
theorem q_on {i : Nat} (e : Ex H0 H) (B : BookAt c H0 n s g) (ha : Ev ta σ H (.ref g.b)) (h1 : s.show_ = none → Refused c H0 E (-2))
    (h2 : ∀ w x, s.show_ = some w → g.sh = some x → ShowAt c H0 g.at n w x → ∀ H1, Ex H H1 → tz D (σ.set i (some (.ref x.a))) H1) :
    tSeq (tAsg (tMeth c.C_Book "show_on" (sp_Book_show_on K c) [] E ta tNil) (gName i)) tz D σ H := by
  obtain ⟨dx, hi⟩ := B.ins
  refine ha H (Ex.refl H) _ fun H1 e1 => ⟨g.b, dx, _, rfl, (e.trans e1) _ _ hi, nk_Book_show_on _ _ _, n, s, g, B.mono (e.trans e1), rfl, fun hn => (h1 hn).mono (e.trans e1), fun w x hw hx sa H2 e2 => ?_⟩
  obtain ⟨x', hx', sa'⟩ := B.on w hw
  rw [hx] at hx'
  cases hx'
  exact h2 w x hw hx sa' H2 (e1.trans e2)
theorem pure_Book_has_dog (T : Txt K mg c) (vs : List V) (H : Hp) (Q : VK) (E : XK) (h : sp_Book_has_dog K c vs H Q E) : t_Book_has_dog K c { nx := fun _ H' => Q .non H', rt := Q } (start N_Book_has_dog vs) H := by
  obtain ⟨z, ⟨n, s, g, i, B, rfl, rfl⟩, q⟩ := h
  unfold t_Book_has_dog
  refine s_ret (ev_chain (i := 0) (j := i) ev_c (ev_var rfl) (ev_len (ev_dogs T B (ev_var rfl)) (sq_of B.ld))) fun H1 e1 => QV (q H1 e1) ?_
  rw [List.length_map, B.dn]
  rfl
theorem pure_Book_show_on (T : Txt K mg c) (vs : List V) (H : Hp) (Q : VK) (E : XK) (h : sp_Book_show_on K c vs H Q E) : t_Book_show_on K c E { nx := fun _ H' => Q .non H', rt := Q } (start N_Book_show_on vs) H := by
  obtain ⟨n, s, g, B, rfl, h1, h2⟩ := h
  obtain ⟨dx, hi⟩ := B.ins
  unfold t_Book_show_on
  have sv : decide (shV g.sh = .non) = true → s.show_ = none := fun hb => by
    cases hs : s.show_ with
    | none => rfl
    | some w =>
      obtain ⟨x, hx, _⟩ := B.on w hs
      rw [hx] at hb
      exact nomatch of_decide_eq_true hb
  refine q_refuse (Ex.refl H) (ev_isN (ev_fld (ev_var rfl) hi T.cl_Book T.n_Book_show (lk_Book_show _ _ _))) (ev_neg ev_c) (fun hb => h1 (sv hb)) (fun hb H1 e1 => ?_)
  cases hs : s.show_ with
  | none =>
    rw [B.no hs] at hb
    cases hb
  | some w =>
    obtain ⟨x, hx, sa⟩ := B.on w hs
    refine s_ret (ev_fld (ev_var rfl) (e1 _ _ hi) T.cl_Book T.n_Book_show (lk_Book_show _ _ _)) fun H2 e2 => QV (h2 w x hs hx sa H2 (e1.trans e2)) ?_
    rw [hx]
    rfl

/-! ### calls that only read -/
/-- the answer's list is new, the book stands -/
theorem told {n : Nat} {s : Kg73.State} {g : GBook} {call : Kg73.Call} {v : Int} {out : List Int} (B : BookAt c H0 n s g)
    (hQ : ∀ s' v out, Kg73.spec s call = (s', ⟨v, out⟩) → ∀ p H' g', g'.b = g.b → BookAt c H' (n + 1) s' g' → Keeps H0 g H' g' → H0 p = none → H' p = some (.lst ((v :: out).map V.int)) → Q (.ref p) H')
    (hs : Kg73.spec s call = (s, ⟨v, out⟩)) {H1 : Hp} (e1 : Ex H0 H1) {xs : List V} (hx : xs = (v :: out).map V.int) : ∀ p H2, H1 p = none → Ex H1 H2 → H2 p = some (.lst xs) → Q (.ref p) H2 := fun p H2 hp e2 h2 => by
  subst hx
  exact hQ s v out hs p H2 g rfl ((B.mono (e1.trans e2)).more (Nat.le_succ n)) (Keeps.of (e1.trans e2)) (fresh_back e1 hp) h2
theorem pure_Book_titles (T : Txt K mg c) (vs : List V) (H : Hp) (Q : VK) (E : XK) (h : sp_Book_titles K c vs H Q E) : t_Book_titles K c E { nx := fun _ H' => Q .non H', rt := Q } (start N_Book_titles vs) H := by
  obtain ⟨n, s, g, args, call, rfl, ⟨z, rfl, rfl⟩, B, G, hn, hE, hQ⟩ := h
  unfold t_Book_titles
  refine q_refuse (Ex.refl H) (ev_notV (ev_has B (ev_var rfl) (ev_var rfl))) (ev_neg ev_c) (fun hb => hE _ ?_) (fun hb H1 e1 => ?_)
  · show (if Kg73.isDog s z = false then _ else _) = _
    rw [if_pos (by simpa using hb)]
  have hd : Kg73.isDog s z = true := by simpa using hb
  obtain ⟨i, hz, hzn, hi⟩ := isDog_nat hd
  subst hz
  have B1 := B.mono e1
  obtain ⟨gd, _, eg, D⟩ := B1.dog hi
  obtain ⟨dd, hdd⟩ := D.ins
  have hsp : Kg73.spec s (.titles i) = (s, ⟨Kg73.truth (Kg73.champion s.kept i), [Kg73.truth (Kg73.youngChampion s.kept i), Kg73.truth (Kg73.oldChampion s.kept i), Kg73.truth (Kg73.wideChampion s.kept (s.dog i) i)]⟩) := by
    show (if Kg73.isDog s i = false then _ else _) = _
    rw [if_neg (by rw [hd]; decide)]
    rfl
  have ks := kept_small G (Nat.le_of_lt hn) i
  refine q_asg (ev_dog T B1 hi (ev_var rfl) (ev_var rfl)) fun H2 e2 => ?_
  have D2 := D.mono e2
  have hd2 := e2 _ _ hdd
  have yes1 : ∀ {H' : Hp} {σ : L2.St} {te : TE} {b : Bool}, Ev te σ H' (.bl b) → Ev (tCall (sp_yes K c) [] E0 (tCons te tNil)) σ H' (.int (Kg73.truth b)) := fun {H' σ te b} h => ev_fn (ea_cons h ea_nil) (spV_of fun H1 e => ⟨b, rfl, rfl⟩)
  rw [eg]
  refine q_asgL (el_lst (vs := [.int (Kg73.truth (Kg73.champion s.kept i)), .int (Kg73.truth (Kg73.youngChampion s.kept i))]) (ea_cons (yes1 ?_) (ea_cons (yes1 ?_) ea_nil)) (by show 2 ≤ 100000; decide)) fun l H3 hl e3 h3 => ?_
  · have r := ev_meth (E := E0) (ta := tVar 2) (σ := [some (.ref g.b), some (.int i), some (.ref gd.a), none]) (ev_var rfl) hd2 (nk_Dog_is_champion _ _ _) ea_nil (v_champion (K := K) D2 ks)
    rw [of_champion] at r
    exact r
  · have r := ev_meth (E := E0) (ta := tVar 2) (σ := [some (.ref g.b), some (.int i), some (.ref gd.a), none]) (ev_var rfl) hd2 (nk_Dog_is_young_champion _ _ _) ea_nil (v_young (K := K) D2 ks)
    rw [of_champion] at r
    exact r
  have D3 := D2.mono e3
  have hd3 := e3 _ _ hd2
  refine s_retL (el_catV (ev_var rfl) h3 (el_lst (vs := [.int (Kg73.truth (Kg73.oldChampion s.kept i)), .int (Kg73.truth (Kg73.wideChampion s.kept (s.dog i) i))]) (ea_cons (yes1 ?_) (ea_cons (yes1 ?_) ea_nil)) (by show 2 ≤ 100000; decide)) (by show 4 ≤ 100000; decide)) (told B hQ hsp ((e1.trans e2).trans e3) rfl)
  · have r := ev_meth (E := E0) (ta := tVar 2) (σ := [some (.ref g.b), some (.int i), some (.ref gd.a), some (.ref l)]) (ev_var rfl) hd3 (nk_Dog_is_old_champion _ _ _) ea_nil (v_old (K := K) D3 ks)
    rw [of_champion] at r
    exact r
  · have r := ev_meth (E := E0) (ta := tVar 2) (σ := [some (.ref g.b), some (.int i), some (.ref gd.a), some (.ref l)]) (ev_var rfl) hd3 (nk_Dog_is_international _ _ _) ea_nil (v_wide (K := K) D3 ks)
    rw [of_champion] at r
    exact r
theorem pure_Book_kept (T : Txt K mg c) (vs : List V) (H : Hp) (Q : VK) (E : XK) (h : sp_Book_kept K c vs H Q E) : t_Book_kept K c E { nx := fun _ H' => Q .non H', rt := Q } (start N_Book_kept vs) H := by
  obtain ⟨n, s, g, args, call, rfl, ⟨z, rfl, rfl⟩, B, G, hn, hE, hQ⟩ := h
  unfold t_Book_kept
  refine q_refuse (Ex.refl H) (ev_notV (ev_has B (ev_var rfl) (ev_var rfl))) (ev_neg ev_c) (fun hb => hE _ ?_) (fun hb H1 e1 => ?_)
  · show (if Kg73.isDog s z = false then _ else _) = _
    rw [if_pos (by simpa using hb)]
  have hd : Kg73.isDog s z = true := by simpa using hb
  obtain ⟨i, hz, hzn, hi⟩ := isDog_nat hd
  subst hz
  have B1 := B.mono e1
  obtain ⟨gd, _, eg, D⟩ := B1.dog hi
  obtain ⟨dd, hdd⟩ := D.ins
  have hsp : Kg73.spec s (.kept i) = (s, ⟨((keptOf s.kept i).length : Nat), Kg73.whole ((keptOf s.kept i).flatMap fun a => [a.kind, a.day, a.judge, a.country])⟩) := by
    show (if Kg73.isDog s i = false then _ else _) = _
    rw [if_neg (by rw [hd]; decide)]
    rfl
  have ks := kept_small G (Nat.le_of_lt hn) i
  have lk : gd.ks.length = (keptOf s.kept i).length := by rw [← D.same, List.length_map]
  refine q_asg (ev_fld (ev_dog T B1 hi (ev_var rfl) (ev_var rfl)) (by rw [eg]; exact hdd) T.cl_Dog T.n_Dog_awards (lk_Dog_awards _ _ _)) fun H2 e2 => ?_
  have D2 := D.mono e2
  refine q_asgL (el_lst (vs := [.int ((keptOf s.kept i).length : Nat)]) (ea_cons (ev_is (ev_len (ev_var rfl) (sq_of D2.aws)) (by rw [List.length_map, lk])) ea_nil) (by show 1 ≤ 100000; decide)) fun l H3 hl e3 h3 => ?_
  have D3 := D2.mono e3
  have e13 := (e1.trans e2).trans e3
  have hl0 : H l = none := fresh_back (e1.trans e2) hl
  refine q_forM (l := gd.ks) (val := fun p => V.ref p.1) (ev_var rfl) (sq_of D3.aws)
    (fun k σ' H' => (∃ a, σ' = [some (.ref g.b), some (.int i), some (.ref gd.aw), some (.ref l), a]) ∧ Ex H2 H' ∧ H' l = some (.lst (.int ((keptOf s.kept i).length : Nat) :: ((gd.ks.take k).flatMap fun p => [V.int (p.2.kind : Nat), V.int (p.2.day : Nat), V.int (p.2.judge : Nat), V.int (p.2.country : Nat)]))))
    (fun H4 e4 => ⟨⟨none, rfl⟩, e3.trans e4, e4 _ _ h3⟩) (fun k σ' H' pv => sq_of (pv.2.1 _ _ D2.aws)) (fun k p σ' H' hk pv => ?_) (fun σ' H' pv => ?_)
  · obtain ⟨⟨a, rfl⟩, ex, hl'⟩ := pv
    have hp : p ∈ gd.ks := List.mem_of_getElem? hk
    obtain ⟨da, hda⟩ := D2.each p hp
    have hda' := ex _ _ hda
    have len : ((gd.ks.take k).flatMap fun p => [V.int (p.2.kind : Nat), V.int (p.2.day : Nat), V.int (p.2.judge : Nat), V.int (p.2.country : Nat)]).length ≤ 4 * gd.ks.length := by
      have q1 : ∀ q : List (Addr × Kg73.Award), (q.flatMap fun p => [V.int (p.2.kind : Nat), V.int (p.2.day : Nat), V.int (p.2.judge : Nat), V.int (p.2.country : Nat)]).length = 4 * q.length := fun q => by
        induction q with
        | nil => rfl
        | cons a q ih => rw [List.flatMap_cons, List.length_append, ih, List.length_cons]; simp; omega
      rw [q1, List.length_take]
      omega
    refine s_ext (zs := [.int (p.2.kind : Nat), .int (p.2.day : Nat), .int (p.2.judge : Nat), .int (p.2.country : Nat)]) hl' (ev_var rfl) (el_lst (ea_cons (ev_fld (ev_var rfl) hda' T.cl_Award T.n_Award_kind (lk_Award_kind _)) (ea_cons (ev_fld (ev_var rfl) hda' T.cl_Award T.n_Award_day (lk_Award_day _)) (ea_cons (ev_fld (ev_var rfl) hda' T.cl_Award T.n_Award_judge (lk_Award_judge _)) (ea_cons (ev_fld (ev_var rfl) hda' T.cl_Award T.n_Award_country (lk_Award_country _)) ea_nil)))) (by show 4 ≤ 100000; decide)) (by
        rw [List.length_cons]
        show _ + 1 + 4 ≤ _
        omega) fun H4 e4 => ⟨⟨_, rfl⟩, (ex.trans e4).mut hl, ?_⟩
    rw [upd_same, take_snoc hk, List.flatMap_append]
    simp
  · obtain ⟨⟨a, rfl⟩, ex, hl'⟩ := pv
    refine s_ret (ev_var rfl) fun H5 e5 => ?_
    refine hQ _ _ _ hsp l H5 g rfl ((B.mono ((e1.trans e2).trans (ex.trans e5))).more (Nat.le_succ n)) (Keeps.of ((e1.trans e2).trans (ex.trans e5))) hl0 ?_
    rw [e5 _ _ hl', List.take_length]
    refine congrArg (fun q => some (HO.lst (_ :: q))) ?_
    rw [← D.same]
    unfold Kg73.whole
    rw [List.map_flatMap, List.map_flatMap, List.flatMap_map]
    rfl
end
end Ds

/-! The book's calls: who is entered, who may have what; grades, awards, entering. -/
namespace Ds
open PySem PySem.Spec PyProof.Rows L2 Evl

/-! ### what a call writes lies apart from the rest -/
def soft : HO → Bool
  | .lst _ => true
  | .dK _ => true
  | .dT _ => true
  | _ => false
theorem ShowAt.hard {c : Cs} {H : Hp} {da : Nat → Addr} {n : Nat} {w : Kg73.Show} {x : GShow} (sa : ShowAt c H da n w x) {a : Addr} {o : HO} (h : H a = some o) (hs : soft o = false) : a ∉ shFoot (some x) := fun hm => by
  have go : ∀ {o' : HO}, H a = some o' → soft o' = true → False := fun h' hs' => by
    rw [h] at h'
    cases h'
    rw [hs] at hs'
    cases hs'
  simp only [shFoot, List.mem_cons, List.not_mem_nil, or_false] at hm
  rcases hm with rfl | rfl | rfl | rfl
  · exact go sa.le rfl
  · exact go sa.dg rfl
  · exact go sa.dr rfl
  · exact go sa.lg rfl
theorem BookAt.foot_some {c : Cs} {H : Hp} {n : Nat} {s : Kg73.State} {g : GBook} (B : BookAt c H n s g) {a : Addr} (ha : a ∈ g.foot) : ∃ o, H a = some o := by
  unfold GBook.foot at ha
  rcases List.mem_cons.mp ha with rfl | ha
  · obtain ⟨dx, h⟩ := B.ins
    exact ⟨_, h⟩
  rcases List.mem_cons.mp ha with rfl | ha
  · exact ⟨_, B.ld⟩
  rcases List.mem_append.mp ha with ha | ha
  · cases hs : s.show_ with
    | none => rw [B.no hs] at ha; exact nomatch ha
    | some w =>
      obtain ⟨x, hx, sa⟩ := B.on w hs
      rw [hx] at ha
      simp only [shFoot, List.mem_cons, List.not_mem_nil, or_false] at ha
      rcases ha with rfl | rfl | rfl | rfl
      · exact ⟨_, sa.le⟩
      · exact ⟨_, sa.dg⟩
      · exact ⟨_, sa.dr⟩
      · exact ⟨_, sa.lg⟩
  · obtain ⟨d, hd, rfl⟩ := List.mem_map.mp ha
    obtain ⟨i, hi⟩ := List.mem_iff_getElem?.mp hd
    have hl : i < s.dogs.length := by rw [← B.dn]; exact (List.getElem?_eq_some_iff.mp hi).1
    exact ⟨_, (B.ds i _ d (List.getElem?_eq_getElem hl) hi).aws⟩
theorem BookAt.new_foot {c : Cs} {H : Hp} {n : Nat} {s : Kg73.State} {g : GBook} (B : BookAt c H n s g) {a : Addr} (h : H a = none) : a ∉ g.foot := fun z => by
  obtain ⟨o, ho⟩ := B.foot_some z
  rw [h] at ho
  cases ho
/-- the places of a show, nothing moved -/
structure Like (x x' : GShow) : Prop where
  a : x'.a = x.a
  le : x'.le = x.le
  dg : x'.dg = x.dg
  dr : x'.dr = x.dr
  lg : x'.lg = x.lg
theorem Like.foot {x x' : GShow} (l : Like x x') : shFoot (some x') = shFoot (some x) := by
  simp only [shFoot]
  rw [l.le, l.dg, l.dr, l.lg]
theorem sub_foot {g : GBook} {x : GShow} (hx : g.sh = some x) {a : Addr} (h : a ∈ shFoot (some x)) : a ∈ g.foot := by
  unfold GBook.foot
  rw [hx]
  exact List.mem_cons_of_mem _ (List.mem_cons_of_mem _ (List.mem_append_left _ h))
/-- the show changes at its own places, all else stands -/
theorem BookAt.put {c : Cs} {H H1 : Hp} {n n' : Nat} {s : Kg73.State} {g : GBook} {w w' : Kg73.Show} {x x' : GShow} (B : BookAt c H n s g) (hw : s.show_ = some w) (hx : g.sh = some x)
    (keep : ∀ a o, H a = some o → a ∉ shFoot (some x) → H1 a = some o) (like : Like x x') (sa : ShowAt c H1 g.at n' w' x') (rr : ∀ p ∈ x'.rs, p.1 ∉ g.foot) :
    BookAt c H1 n' { s with show_ := some w' } { g with sh := some x' } := by
  obtain ⟨x0, hx0, sa0⟩ := B.on w hw
  rw [hx] at hx0
  cases hx0
  have nd := B.nd
  unfold GBook.foot at nd
  rw [hx, List.nodup_cons, List.nodup_cons, List.nodup_append] at nd
  obtain ⟨nb, nl, n1, n2, n12⟩ := nd
  have hft : ({ g with sh := some x' } : GBook).foot = g.foot := by
    unfold GBook.foot
    rw [hx]
    show g.b :: g.ld :: (shFoot (some x') ++ _) = _
    rw [like.foot]
  refine ⟨?_, ?_, B.dn, fun i d y h1 h2 => ?_, (fun z => nomatch z), fun w2 hw2 => ?_, ?_, fun y hy p hp => ?_⟩
  · obtain ⟨dx, h⟩ := B.ins
    refine ⟨dx, ?_⟩
    have q := keep _ _ h (sa0.hard h rfl)
    show H1 g.b = some (.ins c.C_Book dx (bookF g.ld (.ref x'.a) (s.last : Nat)))
    rw [hx] at q
    rw [like.a]
    exact q
  · exact keep _ _ B.ld fun z => nl (List.mem_append_left _ z)
  · obtain ⟨⟨dx, d1⟩, d2, d3, d4⟩ := B.ds i d y h1 h2
    refine ⟨⟨dx, keep _ _ d1 (sa0.hard d1 rfl)⟩, keep _ _ d2 fun z => ?_, fun p hp => ?_, d4⟩
    · exact n12 _ z _ (List.mem_map.mpr ⟨y, List.mem_of_getElem? h2, rfl⟩) rfl
    · obtain ⟨dp, hp'⟩ := d3 p hp
      exact ⟨dp, keep _ _ hp' (sa0.hard hp' rfl)⟩
  · cases hw2
    exact ⟨x', rfl, sa⟩
  · rw [hft]
    exact B.nd
  · cases hy
    rw [hft]
    exact rr p hp

section
variable {K : PySem.W.Frag} {mg : Str → Option Value} {c : Cs} {vs : List V} {H H0 : Hp} {Q : VK} {E : XK} {σ : L2.St} {D : Ends} {tz : TS} {te tn ta tb : TE}
variable {n : Nat} {s : Kg73.State} {g : GBook}
/-- the answer of a call that has changed the show at one place -/
theorem changed {call : Kg73.Call} {v : Int} {out : List Int} {w w' : Kg73.Show} {x x' : GShow} (B : BookAt c H0 n s g)
    (hQ : ∀ s' v out, Kg73.spec s call = (s', ⟨v, out⟩) → ∀ p H' g', g'.b = g.b → BookAt c H' (n + 1) s' g' → Keeps H0 g H' g' → H0 p = none → H' p = some (.lst ((v :: out).map V.int)) → Q (.ref p) H')
    (hsp : Kg73.spec s call = ({ s with show_ := some w' }, ⟨v, out⟩)) (hw : s.show_ = some w) (hx : g.sh = some x) {m : Addr} (hm : m ∈ shFoot (some x)) {Hx : Hp} (ex : Ex H0 Hx) {o : HO} (like : Like x x')
    (sa : ShowAt c (upd Hx m o) g.at (n + 1) w' x') (rr : ∀ p ∈ x'.rs, p.1 ∉ g.foot) {H1 : Hp} (e1 : Ex (upd Hx m o) H1) {xs : List V} (hxs : xs = (v :: out).map V.int) : ∀ p H2, H1 p = none → Ex H1 H2 → H2 p = some (.lst xs) → Q (.ref p) H2 := fun p H2 hp e2 h2 => by
  subst hxs
  have kp : ∀ a o', H0 a = some o' → a ≠ m → H2 a = some o' := fun a o' h ne => e2 _ _ (e1 _ _ (by rw [upd_ne ne]; exact ex _ _ h))
  have B' := B.put hw hx (H1 := H2) (fun a o' h na => kp a o' h fun z => na (z ▸ hm)) like (sa.mono (e1.trans e2)) rr
  have hft : ({ g with sh := some x' } : GBook).foot = g.foot := by
    unfold GBook.foot
    rw [hx]
    show g.b :: g.ld :: (shFoot (some x') ++ _) = _
    rw [like.foot]
  refine hQ _ v out hsp p H2 { g with sh := some x' } rfl B' ⟨fun a o' h na => kp a o' h fun z => na (z ▸ sub_foot hx hm), fun a ha => .inl (by rw [hft] at ha; exact ha)⟩ ?_ h2
  cases h : H0 p with
  | none => rfl
  | some o' =>
    by_cases ne : p = m
    · rw [e1 m _ upd_same |> fun q => (ne ▸ q : H1 p = _)] at hp
      cases hp
    · rw [e1 p _ (by rw [upd_ne ne]; exact ex _ _ h)] at hp
      cases hp
/-- self.show_on(), then more of the same expression -/
theorem on_then {R : V → Hp → Prop} (e : Ex H0 H) (B : BookAt c H0 n s g) (ha : Ev ta σ H (.ref g.b)) (h1 : s.show_ = none → Refused c H0 E (-2))
    (h2 : ∀ w x, s.show_ = some w → g.sh = some x → ShowAt c H0 g.at n w x → ∀ H1, Ex H H1 → R (.ref x.a) H1) : tMeth c.C_Book "show_on" (sp_Book_show_on K c) [] E ta tNil σ H R := by
  obtain ⟨dx, hi⟩ := B.ins
  refine ha H (Ex.refl H) _ fun H1 e1 => ⟨g.b, dx, _, rfl, (e.trans e1) _ _ hi, nk_Book_show_on _ _ _, n, s, g, B.mono (e.trans e1), rfl, fun hn => (h1 hn).mono (e.trans e1), fun w x hw hx sa H2 e2 => ?_⟩
  obtain ⟨x', hx', sa'⟩ := B.on w hw
  rw [hx] at hx'
  cases hx'
  exact h2 w x hw hx sa' H2 (e1.trans e2)
theorem on_none {s : Kg73.State} {f : Kg73.Show → Kg73.State × Kg73.Ans} (h : s.show_ = none) : Kg73.onShow s f = (s, Kg73.num (-2)) := by
  unfold Kg73.onShow
  rw [h]
theorem on_some {s : Kg73.State} {f : Kg73.Show → Kg73.State × Kg73.Ans} {w : Kg73.Show} (h : s.show_ = some w) : Kg73.onShow s f = f w := by
  unfold Kg73.onShow
  rw [h]
theorem grade_is {w : Kg73.Show} (nd : (w.entries.map Kg73.Entry.dog).Nodup) {e : Kg73.Entry} (he : e ∈ w.entries) : w.grade e.dog = e.grade := by
  have go : ∀ l : List Kg73.Entry, (l.map Kg73.Entry.dog).Nodup → e ∈ l → l.find? (fun q => q.dog == e.dog) = some e := by
    intro l
    induction l with
    | nil => intro _ h; cases h
    | cons a l ih =>
      intro hn hm
      rw [List.map_cons, List.nodup_cons] at hn
      rw [List.find?_cons]
      rcases List.mem_cons.mp hm with rfl | hm
      · simp
      · have ne : ¬ a.dog = e.dog := fun z => hn.1 (z ▸ List.mem_map.mpr ⟨e, hm, rfl⟩)
        have nb : (a.dog == e.dog) = false := by simpa using ne
        rw [nb]
        exact ih hn.2 hm
  unfold Kg73.Show.grade Kg73.Show.entry
  rw [go _ nd he]
  rfl
theorem pure_Book_now (T : Txt K mg c) (vs : List V) (H : Hp) (Q : VK) (E : XK) (h : sp_Book_now K c vs H Q E) : t_Book_now K c E { nx := fun _ H' => Q .non H', rt := Q } (start N_Book_now vs) H := by
  obtain ⟨n, s, g, args, call, rfl, ⟨rfl, rfl⟩, B, G, hn, hE, hQ⟩ := h
  unfold t_Book_now
  refine q_on (Ex.refl H) B (ev_var rfl) (fun hs => hE _ (on_none hs)) (fun w x hw hx sa H1 e1 => ?_)
  have v : Vw c H n s g w x := ⟨B, G, Nat.le_of_lt hn, hw, hx, sa⟩
  obtain ⟨dx, hs⟩ := sa.ins
  have sm := v.small
  have le : x.es.length = w.entries.length := by
    have q := congrArg List.length sa.esE
    rw [List.length_map, List.length_map] at q
    exact q
  have hsp : Kg73.spec s .now = (s, ⟨(w.entries.length : Nat), Kg73.whole (w.entries.flatMap fun e => [e.dog, e.class_, e.grade])⟩) := on_some hw
  refine q_asgL (el_lst (vs := [.int (w.entries.length : Nat)]) (ea_cons (ev_is (ev_len (ev_fld (ev_var rfl) (e1 _ _ hs) T.cl_Show T.n_Show_entered (lk_Show_entered _ _ _ _ _)) (sq_of (e1 _ _ sa.le))) (by rw [List.length_map, le])) ea_nil) (by show 1 ≤ 100000; decide)) fun l H2 hl e2 h2 => ?_
  have hl0 : H l = none := fresh_back e1 hl
  refine q_forM (l := x.es) (val := fun p => V.ref p.1) (ev_fld (ev_var rfl) ((e1.trans e2) _ _ hs) T.cl_Show T.n_Show_entered (lk_Show_entered _ _ _ _ _)) (sq_of ((e1.trans e2) _ _ sa.le))
    (fun k σ' H' => (∃ a b, σ' = [some (.ref g.b), some (.ref x.a), some (.ref l), a, b]) ∧ Ex H H' ∧ H' l = some (.lst (.int (w.entries.length : Nat) :: ((x.es.take k).flatMap fun p => [V.int (p.2.dog : Nat), V.int (p.2.class_ : Nat), V.int (w.grade p.2.dog : Nat)]))))
    (fun H3 e3 => ⟨⟨_, _, rfl⟩, (e1.trans e2).trans e3, e3 _ _ h2⟩) (fun k σ' H' pv => sq_of (pv.2.1 _ _ sa.le)) (fun k p σ' H' hk pv => ?_) (fun σ' H' pv => ?_)
  · obtain ⟨⟨a, b, rfl⟩, ex, hl'⟩ := pv
    have hp : p ∈ x.es := List.mem_of_getElem? hk
    refine g_pair (ex _ _ (sa.es p hp)) ?_
    obtain ⟨de, we, hde⟩ := v.dog (v.esDog hp)
    have len : ((x.es.take k).flatMap fun p => [V.int (p.2.dog : Nat), V.int (p.2.class_ : Nat), V.int (w.grade p.2.dog : Nat)]).length ≤ 3 * x.es.length := by
      have q1 : ∀ q : List (Addr × Kg73.Entry), (q.flatMap fun p => [V.int (p.2.dog : Nat), V.int (p.2.class_ : Nat), V.int (w.grade p.2.dog : Nat)]).length = 3 * q.length := fun q => by
        induction q with
        | nil => rfl
        | cons a q ih => rw [List.flatMap_cons, List.length_append, ih, List.length_cons]; simp; omega
      rw [q1, List.length_take]
      omega
    refine s_ext (zs := [.int (p.2.dog : Nat), .int (p.2.class_ : Nat), .int (w.grade p.2.dog : Nat)]) hl' (ev_var rfl) (el_lst (ea_cons (ev_fld (ev_var rfl) (ex _ _ hde) T.cl_Dog T.n_Dog_number (lk_Dog_number _ _ _)) (ea_cons (ev_var rfl) (ea_cons (ev_meth (ev_var rfl) (ex _ _ hs) (nk_Show_grade_of _ _ _ _ _) (ea_cons (ev_var rfl) ea_nil) (v_grade (v.mono ex) (v.esDog hp))) ea_nil))) (by show 3 ≤ 100000; decide)) (by
        rw [List.length_cons]
        show _ + 1 + 3 ≤ _
        omega) fun H4 e4 => ⟨⟨_, _, rfl⟩, (ex.trans e4).mut hl0, ?_⟩
    rw [upd_same, take_snoc hk, List.flatMap_append]
    simp
  · obtain ⟨⟨a, b, rfl⟩, ex, hl'⟩ := pv
    refine s_ret (ev_var rfl) fun H5 e5 => hQ _ _ _ hsp l H5 g rfl ((B.mono (ex.trans e5)).more (Nat.le_succ n)) (Keeps.of (ex.trans e5)) hl0 ?_
    rw [e5 _ _ hl', List.take_length]
    refine congrArg (fun q => some (HO.lst (_ :: q))) ?_
    have q1 : (x.es.flatMap fun p => [V.int (p.2.dog : Nat), V.int (p.2.class_ : Nat), V.int (w.grade p.2.dog : Nat)]) = (x.es.map fun p => (p.2.dog, p.2.class_)).flatMap fun q => [V.int (q.1 : Nat), V.int (q.2 : Nat), V.int (w.grade q.1 : Nat)] := by
      rw [List.flatMap_map]
    rw [q1, sa.esE, List.flatMap_map]
    unfold Kg73.whole
    rw [List.map_flatMap, List.map_flatMap, List.flatMap_def, List.flatMap_def]
    refine congrArg List.flatten (List.map_congr_left fun e he => ?_)
    show [V.int (e.dog : Nat), V.int (e.class_ : Nat), V.int (w.grade e.dog : Nat)] = _
    rw [grade_is v.gw.eNd he]
    rfl
theorem ev_pairTup {a b : Int} : EvU (tTup (tCons (tC (.int a)) (tCons (tC (.int b)) tNil))) σ H ([a, b].map V.int) := eu_tup (vs := [.int a, .int b]) (ea_cons ev_c (ea_cons ev_c ea_nil)) (by show 2 ≤ 100000; decide)
/-- x not in (0, 1) -/
theorem ev_sex {z : Int} (ha : Ev ta σ H (.int z)) : Ev (tOp (rIn K true) ta (tTup (tCons (tC (.int 0)) (tCons (tC (.int 1)) tNil)))) σ H (.bl (!Kg73.within z 0 1)) := by
  have r := ev_niI (K := K) (ns := [0, 1]) ha ev_pairTup
  have e : decide (z ∈ ([0, 1] : List Int)) = Kg73.within z 0 1 := by
    unfold Kg73.within
    by_cases h0 : z = 0
    · subst h0; rfl
    · by_cases h1 : z = 1
      · subst h1; rfl
      · rw [decide_eq_false (by simp [h0, h1])]
        by_cases h2 : 0 ≤ z
        · rw [decide_eq_true h2, decide_eq_false (show ¬ z ≤ 1 by omega)]; rfl
        · rw [decide_eq_false h2]; rfl
  rw [e] at r
  exact r
/-- not lo <= x <= hi -/
theorem ev_out {z lo hi : Int} (ha : Ev ta σ H (.int z)) : Ev (tNotV (tChain (rI0 fun i j => .bl (decide (i ≤ j))) (rI0 fun i j => .bl (decide (i ≤ j))) (tC (.int lo)) ta (tC (.int hi)))) σ H (.bl (!Kg73.within z lo hi)) :=
  ev_notV (ev_chain (f := fun i j => decide (i ≤ j)) (f' := fun i j => decide (i ≤ j)) ev_c ha ev_c)
theorem pure_Book_may (T : Txt K mg c) (vs : List V) (H : Hp) (Q : VK) (E : XK) (h : sp_Book_may K c vs H Q E) : t_Book_may K c E { nx := fun _ H' => Q .non H', rt := Q } (start N_Book_may vs) H := by
  obtain ⟨n, s, g, args, call, rfl, ⟨z, z2, rfl, rfl⟩, B, G, hn, hE, hQ⟩ := h
  unfold t_Book_may
  refine q_refuse (Ex.refl H) (ev_orV (ev_out (z := z) (ev_var rfl)) fun _ => ev_sex (z := z2) (ev_var rfl)) (ev_neg ev_c) (fun hb => hE _ ?_) (fun hb H1 e1 => ?_)
  · show (if (Kg73.within z 0 7 && Kg73.within z2 0 1) = false then _ else _) = _
    rw [← Bool.not_and, Bool.not_eq_true'] at hb
    rw [if_pos hb]
  rw [← Bool.not_and, Bool.not_eq_false'] at hb
  have hb' : (Kg73.within z 0 7 && Kg73.within z2 0 1) = true := hb
  have hb2 := hb'
  rw [Bool.and_eq_true] at hb2
  obtain ⟨k, hz, hzn, _, hk⟩ := within_nat (lo := 0) (hi := 7) hb2.1
  obtain ⟨sx, hz2, hz2n, _, hsx⟩ := within_nat (lo := 0) (hi := 1) hb2.2
  have spec1 : ∀ {f : Kg73.Show → Kg73.State × Kg73.Ans}, (if (Kg73.within z 0 7 && Kg73.within z2 0 1) = false then (s, Kg73.num (-1)) else Kg73.onShow s f) = Kg73.onShow s f := fun {f} => by
    rw [hb', if_neg (by decide)]
  refine on_then (H0 := H) (R := fun y H2 => ∃ a dx fs, y = .ref a ∧ H2 a = some (.ins c.C_Show dx fs) ∧ fs.lookup ("may_have" : Str) = none ∧ (tCons (tVar 1) (tCons (tVar 2) tNil)) [some (.ref g.b), some (.int z), some (.int z2), none, none] H2 fun vs H3 => sp_Show_may_have K c (y :: (vs ++ [])) H3 _ E0) e1 B (ev_var rfl) (fun hs => hE _ (spec1.trans (on_none hs))) (fun w x hw hx sa H2 e2 => ?_)
  have v : Vw c H2 n s g w x := ⟨B.mono (e1.trans e2), G, Nat.le_of_lt hn, hw, hx, sa.mono (e1.trans e2)⟩
  obtain ⟨dx, hs⟩ := v.sa.ins
  subst hz hz2
  have hsp : Kg73.spec s (.may k sx) = (s, ⟨((w.may s k sx).length : Nat), Kg73.whole (w.may s k sx)⟩) := spec1.trans (on_some hw)
  show tSeq (tAsg (tMeth c.C_Show "may_have" (sp_Show_may_have K c) [] E0 (tC (.ref x.a)) (tCons (tVar 1) (tCons (tVar 2) tNil))) (gName 3)) _ _ _ H2
  refine q_asgL (el_meth ev_c hs (nk_Show_may_have _ _ _ _ _) (ea_cons (ev_var rfl) (ea_cons (ev_var rfl) ea_nil)) (v_may v hk hsx)) fun l H3 hl e3 h3 => ?_
  have ml := may_len (k := k) (x := sx) v.gw
  have v3 := v.mono e3
  have comp := el_lc (K := K) (σ := [some (.ref g.b), some (.int k), some (.int sx), some (.ref l), none]) (H := H3) (l := w.may s k sx) (val := fun i => V.ref (g.at i)) (tl := tVar 3) (j := 4) (vs := [4]) (t := tYes) (te := tFld K (tVar 4) "number") (fun _ => true) (fun i => V.int (i : Nat)) (ev_var rfl) (sq_of h3) (by omega) (fun y => rfl)
    (fun i H4 e hi => fun H5 _ Q q => q H5 (Ex.refl H5)) (fun i H4 e hi _ => by
      obtain ⟨di, wi, hdi⟩ := v3.dog (may_dog v.gw hi)
      exact ev_fld (ev_var rfl) (e _ _ hdi) T.cl_Dog T.n_Dog_number (lk_Dog_number _ _ _))
  rw [List.filter_eq_self.mpr (fun _ _ => rfl)] at comp
  refine s_retL (el_catL (el_lst (vs := [.int ((w.may s k sx).length : Nat)]) (ea_cons (ev_is (ev_len (ev_var rfl) (sq_of h3)) (by unfold refs; rw [List.length_map])) ea_nil) (by show 1 ≤ 100000; decide)) comp (by
      rw [List.length_map]
      show 1 + _ ≤ _
      omega)) (told B hQ hsp ((e1.trans e2).trans e3) ?_)
  show V.int _ :: _ = V.int _ :: _
  unfold Kg73.whole
  rw [List.map_map]
  rfl
end
end Ds

/-! Entering, grading, awarding. -/
namespace Ds
open PySem PySem.Spec PyProof.Rows L2 Evl
section
variable {K : PySem.W.Frag} {mg : Str → Option Value} {c : Cs} {vs : List V} {H H0 : Hp} {Q : VK} {E : XK} {σ : L2.St} {D : Ends} {tz : TS} {te tn ta tb : TE}
variable {n : Nat} {s : Kg73.State} {g : GBook}
theorem ev_class {k : Int} (hb : Ev tb σ H (.int k)) : Ev (tCall (sp_is_class K c) [] E0 (tCons tb tNil)) σ H (.bl (Kg73.within k 0 6)) := ev_fn (ea_cons hb ea_nil) (spV_of fun H1 e => ⟨k, rfl, rfl⟩)
theorem ev_age {k age : Nat} {z : Int} (hk : k ≤ 6) (ha : Ev ta σ H (.int k)) (hb : Ev tb σ H (.int z)) (hz : z = (age : Int)) : Ev (tCall (sp_is_of_age K c) [] E0 (tCons ta (tCons tb tNil))) σ H (.bl (Kg73.ageOk k age)) := by
  subst hz
  exact ev_fn (ea_cons ha (ea_cons hb ea_nil)) (spV_of fun H1 e => ⟨k, age, hk, rfl, rfl⟩)
/-- the places of a show differ -/
structure Apart (x : GShow) (g : GBook) : Prop where
  le_lg : x.le ≠ x.lg
  rs_le : ∀ p ∈ x.rs, p.1 ≠ x.le
  rs_lg : ∀ p ∈ x.rs, p.1 ≠ x.lg
theorem BookAt.apart (B : BookAt c H n s g) {x : GShow} (hx : g.sh = some x) : Apart x g := by
  have nd := B.nd
  unfold GBook.foot at nd
  rw [hx, List.nodup_cons, List.nodup_cons, List.nodup_append] at nd
  obtain ⟨_, _, n1, _, _⟩ := nd
  simp only [shFoot, List.nodup_cons, List.mem_cons, List.not_mem_nil, or_false, not_or] at n1
  have f1 : x.le ∈ g.foot := sub_foot hx (by simp [shFoot])
  have f2 : x.lg ∈ g.foot := sub_foot hx (by simp [shFoot])
  exact ⟨n1.1.2.2, fun p hp z => B.rr x hx p hp (z ▸ f1), fun p hp z => B.rr x hx p hp (z ▸ f2)⟩
theorem entry_app {w : Kg73.Show} {e : Kg73.Entry} (i : Nat) : ({ w with entries := w.entries ++ [e] } : Kg73.Show).entry i = (w.entry i).or (if e.dog = i then some e else none) := by
  unfold Kg73.Show.entry
  rw [List.find?_append, List.find?_cons]
  by_cases h : e.dog = i
  · simp [h]
  · have h' : (e.dog == i) = false := by simpa using h
    rw [h', if_neg h]
    rfl
theorem ShowAt.enter {w : Kg73.Show} {x : GShow} {H : Hp} {t : Addr} {i k : Nat} (sa : ShowAt c H g.at n w x) (ap : Apart x g) (ht : H t = some (.tup [.ref (g.at i), .int (k : Nat)])) (hn : w.entry i = none) :
    ShowAt c (upd H x.le (.lst ((x.es.map fun p => V.ref p.1) ++ [.ref t]))) g.at (n + 1) { w with entries := w.entries ++ [⟨i, k, 0⟩] } { x with es := x.es ++ [(t, ⟨i, k, 0⟩)] } := by
  have nel : ∀ {a : Addr} {o : HO}, H a = some o → (∀ xs, o ≠ .lst xs) → upd H x.le (.lst ((x.es.map fun p => V.ref p.1) ++ [.ref t])) a = some o := fun {a o} h ho => by
    rw [upd_ne (ne_of h sa.le (ho _))]
    exact h
  obtain ⟨dx, hi⟩ := sa.ins
  refine ⟨⟨dx, nel hi fun xs z => nomatch z⟩, ?_, fun p hp => ?_, ?_, nel sa.dg fun xs z => (nomatch z), fun j => ?_, Nat.le_succ_of_le sa.gl, nel sa.dr fun xs z => (nomatch z), fun p hp => ?_, sa.rsE, ?_, fun p hp => ?_, sa.gsE⟩
  · rw [upd_same, List.map_append]
    rfl
  · rcases List.mem_append.mp hp with hp | hp
    · exact nel (sa.es p hp) fun xs z => nomatch z
    · have e : p = (t, ⟨i, k, 0⟩) := by simpa using hp
      subst e
      exact nel ht fun xs z => nomatch z
  · rw [List.map_append, List.map_append, sa.esE]
    rfl
  · rw [sa.gk j]
    unfold Kg73.Show.grade
    rw [entry_app]
    by_cases h : i = j
    · subst h
      rw [hn, if_pos rfl]
      rfl
    · rw [if_neg h, Option.or_none]
  · rw [upd_ne (ap.rs_le p hp)]
    exact sa.rs p hp
  · rw [upd_ne (Ne.symm ap.le_lg)]
    exact sa.lg
  · exact nel (sa.gs p hp) fun xs z => nomatch z
theorem cls_some {w : Kg73.Show} {i : Nat} : decide ((0 : Int) ≤ clsOf w i) = (w.entry i).isSome := by
  unfold clsOf
  cases w.entry i with
  | none => rfl
  | some e => exact decide_eq_true (by show (0 : Int) ≤ (e.class_ : Nat); omega)
theorem cls_none {w : Kg73.Show} {i : Nat} : decide (clsOf w i < (0 : Int)) = (w.entry i).isNone := by
  unfold clsOf
  cases w.entry i with
  | none => rfl
  | some e => exact decide_eq_false (by show ¬ ((e.class_ : Nat) : Int) < 0; omega)
theorem len_pos {α : Type} (l : List α) : decide ((0 : Int) < (l.length : Nat)) = decide (l ≠ []) := by
  cases l with
  | nil => rfl
  | cons a l => rw [decide_eq_true (by rw [List.length_cons]; omega), decide_eq_true (fun z => nomatch z)]
theorem rowK_len (rs : List (Addr × Kg73.Row)) : (rowK rs).length = rs.length := by unfold rowK; rw [List.length_map]
theorem ev_rows (T : Txt K mg c) {w : Kg73.Show} {x : GShow} (v : Vw c H n s g w x) (ha : Ev ta σ H (.ref x.a)) : Ev (tOp (rI0 fun i j => .bl (decide (j < i))) (tCB rLenT (tCons (tFld K ta "rows") tNil)) (tC (.int 0))) σ H (.bl (decide (w.rows ≠ []))) := by
  obtain ⟨dx, hs⟩ := v.sa.ins
  have r := ev_I0 (f := fun i j => .bl (decide (j < i))) (ev_lenT (ev_fld ha hs T.cl_Show T.n_Show_rows (lk_Show_rows _ _ _ _ _)) v.sa.dr) (ev_c (v := .int 0))
  rw [rowK_len, ← List.length_map (f := fun p : Addr × Kg73.Row => p.2), v.sa.rsE, len_pos] at r
  exact r
theorem ev_clsOf {w : Kg73.Show} {x : GShow} (v : Vw c H n s g w x) {i : Nat} (hi : i < s.dogs.length) (ha : Ev ta σ H (.ref x.a)) (hb : Ev tb σ H (.ref (g.at i))) : Ev (tMeth c.C_Show "class_of" (sp_Show_class_of K c) [] E0 ta (tCons tb tNil)) σ H (.int (clsOf w i)) := by
  obtain ⟨dx, hs⟩ := v.sa.ins
  exact ev_meth ha hs (nk_Show_class_of _ _ _ _ _) (ea_cons hb ea_nil) (v_class v hi)
theorem bnot_or {a b : Bool} (h : (!a || !b) = true) : (a && b) = false := by cases a <;> cases b <;> simp_all
theorem bnot_or' {a b : Bool} (h : (!a || !b) = false) : (a && b) = true := by cases a <;> cases b <;> simp_all
theorem pure_Book_enter (T : Txt K mg c) (vs : List V) (H : Hp) (Q : VK) (E : XK) (h : sp_Book_enter K c vs H Q E) : t_Book_enter K c E { nx := fun _ H' => Q .non H', rt := Q } (start N_Book_enter vs) H := by
  obtain ⟨n, s, g, args, call, rfl, ⟨z, z2, rfl, rfl⟩, B, G, hn, hE, hQ⟩ := h
  unfold t_Book_enter
  refine q_refuse (Ex.refl H) (ev_orV (ev_notV (ev_has B (ev_var rfl) (ev_var rfl))) fun _ => ev_notV (ev_class (k := z2) (ev_var rfl))) (ev_neg ev_c) (fun hb => hE _ ?_) (fun hb H1 e1 => ?_)
  · show (if (Kg73.isDog s z && Kg73.within z2 0 6) = false then _ else _) = _
    rw [if_pos (bnot_or hb)]
  have hb' := bnot_or' hb
  have hb2 := hb'
  rw [Bool.and_eq_true] at hb2
  obtain ⟨i, hz, hzn, hi⟩ := isDog_nat hb2.1
  obtain ⟨k, hz2, hz2n, _, hk⟩ := within_nat (lo := 0) (hi := 6) hb2.2
  have spec1 : ∀ {f : Kg73.Show → Kg73.State × Kg73.Ans}, (if (Kg73.isDog s z && Kg73.within z2 0 6) = false then (s, Kg73.num (-1)) else Kg73.onShow s f) = Kg73.onShow s f := fun {f} => by
    rw [hb', if_neg (by decide)]
  refine q_on e1 B (ev_var rfl) (fun hs => hE _ (spec1.trans (on_none hs))) (fun w x hw hx sa0 H2 e2 => ?_)
  have e12 := e1.trans e2
  have v : Vw c H2 n s g w x := ⟨B.mono e12, G, Nat.le_of_lt hn, hw, hx, sa0.mono e12⟩
  subst hz hz2
  have spec2 : Kg73.spec s (.enter i k) = (if (w.entry i).isSome = true ∨ w.rows ≠ [] then (s, Kg73.num (-5))
      else if (decide ((s.dog i).born ≤ w.day) && Kg73.ageOk k (w.day - (s.dog i).born)) = false then (s, Kg73.num (-4))
      else if ((k : Int) = 4 ∧ (s.dog i).worked = false) ∨ ((k : Int) = 5 ∧ Kg73.champion s.kept i = false ∧ Kg73.wideChampion s.kept (s.dog i) i = false) then (s, Kg73.num (-6))
      else ({ s with show_ := some { w with entries := w.entries ++ [⟨i, k, 0⟩] } }, Kg73.num w.entries.length)) := spec1.trans (on_some hw)
  refine q_asg (ev_dog T v.bk hi (ev_var rfl) (ev_var rfl)) fun H3 e3 => ?_
  have v3 := v.mono e3
  have e13 := e12.trans e3
  refine q_refuse e13 (ev_orV (ev_I0 (ev_clsOf v3 hi (ev_var rfl) (ev_var rfl)) ev_c) fun _ => ev_rows T v3 (ev_var rfl)) (ev_neg ev_c) (fun hb => hE _ ?_) (fun hb H4 e4 => ?_)
  · rw [cls_some, Bool.or_eq_true, decide_eq_true_eq] at hb
    rw [spec2, if_pos hb]
  rw [cls_some, Bool.or_eq_false_iff, decide_eq_false_iff_not] at hb
  have spec3 := spec2
  rw [if_neg (fun z => z.elim (fun y => by rw [hb.1] at y; cases y) hb.2)] at spec3
  have hnone : w.entry i = none := by
    cases h : w.entry i with
    | none => rfl
    | some e => rw [h] at hb; exact nomatch hb.1
  have v4 := v3.mono e4
  have e14 := e13.trans e4
  obtain ⟨gd, _, eg, Dg⟩ := v4.bk.dog hi
  obtain ⟨dd, hd⟩ := Dg.ins
  obtain ⟨dx, hs⟩ := v4.sa.ins
  refine q_refuse e14 (ev_orV (ev_I0 (ev_fld (ev_var rfl) (by rw [eg]; exact hd) T.cl_Dog T.n_Dog_born (lk_Dog_born _ _ _)) (ev_fld (ev_var rfl) hs T.cl_Show T.n_Show_day (lk_Show_day _ _ _ _ _))) fun hle =>
    ev_notV (ev_age (age := w.day - (s.dog i).born) hk (ev_var rfl) (ev_I0 (ev_fld (ev_var rfl) hs T.cl_Show T.n_Show_day (lk_Show_day _ _ _ _ _)) (ev_fld (a := g.at i) (ev_var rfl) (by rw [eg]; exact hd) T.cl_Dog T.n_Dog_born (lk_Dog_born _ _ _))) (by have := of_decide_eq_false hle; omega))) (ev_neg ev_c) (fun hb => hE _ ?_) (fun hb H5 e5 => ?_)
  · have q : (decide ((s.dog i).born ≤ w.day) && Kg73.ageOk k (w.day - (s.dog i).born)) = false := by
      rw [Bool.or_eq_true, decide_eq_true_eq] at hb
      rcases hb with hb | hb
      · rw [decide_eq_false (show ¬ (s.dog i).born ≤ w.day by omega)]
        rfl
      · rw [Bool.not_eq_true'] at hb
        rw [hb, Bool.and_false]
    rw [spec3, if_pos q]
  have spec4 := spec3
  rw [Bool.or_eq_false_iff, decide_eq_false_iff_not, Bool.not_eq_false'] at hb
  rw [hb.2, decide_eq_true (show (s.dog i).born ≤ w.day by omega), if_neg (by decide)] at spec4
  have v5 := v4.mono e5
  have e15 := e14.trans e5
  have hd5 := e5 _ _ hd
  refine q_refuse e15 (ev_andV (ev_eqI (i := k) (j := 4) (ev_var rfl) ev_c) fun _ => ev_notV (ev_fld (a := g.at i) (ev_var rfl) (by rw [eg]; exact hd5) T.cl_Dog T.n_Dog_worked (lk_Dog_worked _ _ _))) (ev_neg ev_c) (fun hb => hE _ ?_) (fun hb H6 e6 => ?_)
  · rw [Bool.and_eq_true, decide_eq_true_eq, Bool.not_eq_true'] at hb
    rw [spec4, if_pos (.inl hb)]
  have n4 : ¬ ((k : Int) = 4 ∧ (s.dog i).worked = false) := fun z => by
    rw [decide_eq_true z.1, z.2] at hb
    cases hb
  have v6 := v5.mono e6
  have e16 := e15.trans e6
  have hd6 := e6 _ _ hd5
  have D6 := (Dg.mono e5).mono e6
  have ks := kept_small G (Nat.le_of_lt hn) i
  have cc : Ev (tMeth c.C_Dog "is_champion" (sp_Dog_is_champion K c) [] E0 (tVar 4) tNil) [some (.ref g.b), some (.int i), some (.int k), some (.ref x.a), some (.ref (g.at i))] H6 (.bl (Kg73.champion s.kept i)) := by
    have r := ev_meth (E := E0) (ta := tVar 4) (σ := [some (.ref g.b), some (.int i), some (.int k), some (.ref x.a), some (.ref gd.a)]) (ev_var rfl) hd6 (nk_Dog_is_champion _ _ _) ea_nil (v_champion (K := K) D6 ks)
    rw [of_champion] at r
    rw [eg]
    exact r
  have cw : Ev (tMeth c.C_Dog "is_international" (sp_Dog_is_international K c) [] E0 (tVar 4) tNil) [some (.ref g.b), some (.int i), some (.int k), some (.ref x.a), some (.ref (g.at i))] H6 (.bl (Kg73.wideChampion s.kept (s.dog i) i)) := by
    have r := ev_meth (E := E0) (ta := tVar 4) (σ := [some (.ref g.b), some (.int i), some (.int k), some (.ref x.a), some (.ref gd.a)]) (ev_var rfl) hd6 (nk_Dog_is_international _ _ _) ea_nil (v_wide (K := K) D6 ks)
    rw [of_champion] at r
    rw [eg]
    exact r
  refine q_refuse e16 (ev_andV (ev_eqI (i := k) (j := 5) (ev_var rfl) ev_c) fun _ => ev_notV (ev_orV cc fun _ => cw)) (ev_neg ev_c) (fun hb => hE _ ?_) (fun hb H7 e7 => ?_)
  · rw [Bool.and_eq_true, decide_eq_true_eq, Bool.not_eq_true', Bool.or_eq_false_iff] at hb
    rw [spec4, if_pos (.inr hb)]
  have n5 : ¬ ((k : Int) = 5 ∧ Kg73.champion s.kept i = false ∧ Kg73.wideChampion s.kept (s.dog i) i = false) := fun z => by
    rw [decide_eq_true z.1, z.2.1, z.2.2] at hb
    cases hb
  rw [if_neg (fun z => z.elim n4 n5)] at spec4
  have v7 := v6.mono e7
  have e17 := e16.trans e7
  obtain ⟨dx7, hs7⟩ := v7.sa.ins
  have le : x.es.length = w.entries.length := by
    have q := congrArg List.length sa0.esE
    rw [List.length_map, List.length_map] at q
    exact q
  have sm := v.small
  refine q_appU (ys := [.ref (g.at i), .int (k : Nat)]) v7.sa.le (ev_fld (ev_var rfl) hs7 T.cl_Show T.n_Show_entered (lk_Show_entered _ _ _ _ _)) (eu_tup (ea_cons (ev_var rfl) (ea_cons (ev_var rfl) ea_nil)) (by show 2 ≤ 100000; decide)) (by rw [List.length_map]; omega) fun t H8 ht e8 h8 => ?_
  have v8 := v7.mono e8
  have ap := B.apart hx
  have sa8 := v8.sa.enter (k := k) ap h8 hnone
  obtain ⟨dx8, hs8⟩ := sa8.ins
  refine s_retL (el_lst (vs := [.int (w.entries.length : Nat)]) (ea_cons (ev_is (ev_I0 (ev_len (ev_fld (ev_var rfl) hs8 T.cl_Show T.n_Show_entered (lk_Show_entered _ _ _ _ _)) (sq_of sa8.le)) ev_c) ?_) ea_nil) (by show 1 ≤ 100000; decide)) (changed B hQ spec4 hw hx (x' := { x with es := x.es ++ [(t, ⟨i, k, 0⟩)] }) (by simp [shFoot]) (e17.trans e8) ⟨rfl, rfl, rfl, rfl, rfl⟩ sa8 (fun p hp => B.rr x hx p hp) (Ex.refl _) rfl)
  refine congrArg V.int ?_
  rw [List.length_map, List.length_append, List.length_singleton, le]
  omega
/-! ### grades -/
theorem entry_graded {w : Kg73.Show} {i gr : Nat} (j : Nat) : ({ w with entries := w.entries.map fun e => if e.dog = i then { e with grade := gr } else e } : Kg73.Show).entry j = (w.entry j).map fun e => if e.dog = i then { e with grade := gr } else e := by
  unfold Kg73.Show.entry
  rw [List.find?_map]
  refine congrArg (Option.map _) (congrArg (fun f => List.find? f w.entries) (funext fun e => ?_))
  show ((if e.dog = i then { e with grade := gr } else e).dog == j) = (e.dog == j)
  split <;> rfl
theorem entry_dog {w : Kg73.Show} {j : Nat} {e : Kg73.Entry} (h : w.entry j = some e) : e.dog = j := by
  have q := List.find?_some h
  simpa using q
theorem ShowAt.grade {w : Kg73.Show} {x : GShow} {H : Hp} {i gr : Nat} (sa : ShowAt c H g.at n w x) (hn : (w.entry i).isNone = false) :
    ShowAt c (upd H x.dg (.dK (putK x.gk (Sum.inl (i : Int)) (.int (gr : Nat))))) g.at (n + 1) { w with entries := w.entries.map fun e => if e.dog = i then { e with grade := gr } else e } { x with gk := putK x.gk (Sum.inl (i : Int)) (.int (gr : Nat)) } := by
  have nel : ∀ {a : Addr} {o : HO}, H a = some o → (∀ xs, o ≠ .dK xs) → upd H x.dg (.dK (putK x.gk (Sum.inl (i : Int)) (.int (gr : Nat)))) a = some o := fun {a o} h ho => by
    rw [upd_ne (ne_of h sa.dg (ho _))]
    exact h
  obtain ⟨dx, hi⟩ := sa.ins
  refine ⟨⟨dx, nel hi fun xs z => nomatch z⟩, nel sa.le fun xs z => (nomatch z), fun p hp => nel (sa.es p hp) fun xs z => (nomatch z), ?_, upd_same, fun j => ?_, ?_, nel sa.dr fun xs z => (nomatch z), fun p hp => nel (sa.rs p hp) fun xs z => (nomatch z), sa.rsE, nel sa.lg fun xs z => (nomatch z), fun p hp => nel (sa.gs p hp) fun xs z => (nomatch z), sa.gsE⟩
  · rw [sa.esE, List.map_map]
    refine List.map_congr_left fun e _ => ?_
    show (e.dog, e.class_) = ((if e.dog = i then { e with grade := gr } else e).dog, (if e.dog = i then { e with grade := gr } else e).class_)
    split <;> rfl
  · show (valV (putK x.gk (Sum.inl (i : Int)) (.int (gr : Nat))) (Sum.inl (j : Int))).getD (.int 0) = _
    rw [valV_put]
    unfold Kg73.Show.grade
    rw [entry_graded]
    by_cases h : j = i
    · subst h
      rw [if_pos rfl]
      cases he : w.entry j with
      | none => rw [he] at hn; cases hn
      | some e =>
        show V.int (gr : Nat) = V.int (((if e.dog = j then { e with grade := gr } else e).grade : Nat) : Int)
        rw [if_pos (entry_dog he)]
    · rw [if_neg (fun z => h (Int.ofNat_inj.mp (Sum.inl.inj z))), sa.gk j]
      unfold Kg73.Show.grade
      cases he : w.entry j with
      | none => rfl
      | some e =>
        show V.int (e.grade : Nat) = V.int (((if e.dog = i then { e with grade := gr } else e).grade : Nat) : Int)
        rw [if_neg (by rw [entry_dog he]; exact h)]
  · have := length_putK x.gk (Sum.inl (i : Int)) (.int (gr : Nat))
    have := sa.gl
    show (putK x.gk _ _).length ≤ n + 1
    omega
theorem pure_Book_grade (T : Txt K mg c) (vs : List V) (H : Hp) (Q : VK) (E : XK) (h : sp_Book_grade K c vs H Q E) : t_Book_grade K c E { nx := fun _ H' => Q .non H', rt := Q } (start N_Book_grade vs) H := by
  obtain ⟨n, s, g, args, call, rfl, ⟨z, z2, rfl, rfl⟩, B, G, hn, hE, hQ⟩ := h
  unfold t_Book_grade
  refine q_refuse (Ex.refl H) (ev_orV (ev_notV (ev_has B (ev_var rfl) (ev_var rfl))) fun _ => ev_out (z := z2) (ev_var rfl)) (ev_neg ev_c) (fun hb => hE _ ?_) (fun hb H1 e1 => ?_)
  · show (if (Kg73.isDog s z && Kg73.within z2 1 3) = false then _ else _) = _
    rw [if_pos (bnot_or hb)]
  have hb' := bnot_or' hb
  have hb2 := hb'
  rw [Bool.and_eq_true] at hb2
  obtain ⟨i, hz, hzn, hi⟩ := isDog_nat hb2.1
  obtain ⟨k, hz2, hz2n, _, hk⟩ := within_nat (lo := 1) (hi := 3) hb2.2
  have spec1 : ∀ {f : Kg73.Show → Kg73.State × Kg73.Ans}, (if (Kg73.isDog s z && Kg73.within z2 1 3) = false then (s, Kg73.num (-1)) else Kg73.onShow s f) = Kg73.onShow s f := fun {f} => by
    rw [hb', if_neg (by decide)]
  refine q_on e1 B (ev_var rfl) (fun hs => hE _ (spec1.trans (on_none hs))) (fun w x hw hx sa0 H2 e2 => ?_)
  have e12 := e1.trans e2
  have v : Vw c H2 n s g w x := ⟨B.mono e12, G, Nat.le_of_lt hn, hw, hx, sa0.mono e12⟩
  subst hz hz2
  have spec2 : Kg73.spec s (.grade i k) = (if (w.entry i).isNone = true then (s, Kg73.num (-4)) else if w.rows ≠ [] then (s, Kg73.num (-5))
      else ({ s with show_ := some { w with entries := w.entries.map fun e => if e.dog = i then { e with grade := k } else e } }, Kg73.num 0)) := spec1.trans (on_some hw)
  refine q_refuse e12 (ev_I0 (ev_clsOf v hi (ev_var rfl) (ev_dog T v.bk hi (ev_var rfl) (ev_var rfl))) ev_c) (ev_neg ev_c) (fun hb => hE _ ?_) (fun hb H3 e3 => ?_)
  · rw [cls_none] at hb
    rw [spec2, if_pos hb]
  rw [cls_none] at hb
  have spec3 := spec2
  rw [if_neg (by rw [hb]; decide)] at spec3
  have v3 := v.mono e3
  have e13 := e12.trans e3
  refine q_refuse e13 (ev_rows T v3 (ev_var rfl)) (ev_neg ev_c) (fun hb2 => hE _ ?_) (fun hb2 H4 e4 => ?_)
  · rw [spec3, if_pos (of_decide_eq_true hb2)]
  have spec4 := spec3
  rw [if_neg (of_decide_eq_false hb2)] at spec4
  have v4 := v3.mono e4
  have e14 := e13.trans e4
  obtain ⟨dx, hs⟩ := v4.sa.ins
  have gl := v4.sa.gl
  refine q_putK (ev_var rfl) (ev_fld (ev_var rfl) hs T.cl_Show T.n_Show_grades (lk_Show_grades _ _ _ _ _)) (ev_var rfl) v4.sa.dg (by omega) fun H5 e5 => ?_
  have v5 := v4.mono e5
  exact s_retL (el_lst (vs := [.int 0]) (ea_cons ev_c ea_nil) (by show 1 ≤ 100000; decide)) (changed B hQ spec4 hw hx (x' := { x with gk := putK x.gk (Sum.inl (i : Int)) (.int (k : Nat)) }) (by simp [shFoot]) (e14.trans e5) ⟨rfl, rfl, rfl, rfl, rfl⟩ (v5.sa.grade hb) (fun p hp => B.rr x hx p hp) (Ex.refl _) rfl)
/-! ### awards -/
theorem ShowAt.award {w : Kg73.Show} {x : GShow} {H : Hp} {t : Addr} {i k : Nat} (sa : ShowAt c H g.at n w x) (ap : Apart x g) (ht : H t = some (.tup [.ref (g.at i), .int (k : Nat)])) :
    ShowAt c (upd H x.lg (.lst ((x.gs.map fun p => V.ref p.1) ++ [.ref t]))) g.at (n + 1) (w.award i k) { x with gs := x.gs ++ [(t, ⟨i, k, w.day, w.judge, w.country⟩)] } := by
  have nel : ∀ {a : Addr} {o : HO}, H a = some o → (∀ xs, o ≠ .lst xs) → upd H x.lg (.lst ((x.gs.map fun p => V.ref p.1) ++ [.ref t])) a = some o := fun {a o} h ho => by
    rw [upd_ne (ne_of h sa.lg (ho _))]
    exact h
  obtain ⟨dx, hi⟩ := sa.ins
  refine ⟨⟨dx, nel hi fun xs z => nomatch z⟩, ?_, fun p hp => nel (sa.es p hp) fun xs z => (nomatch z), sa.esE, nel sa.dg fun xs z => (nomatch z), fun j => sa.gk j, Nat.le_succ_of_le sa.gl, nel sa.dr fun xs z => (nomatch z), fun p hp => ?_, sa.rsE, ?_, fun p hp => ?_, ?_⟩
  · show upd H x.lg _ x.le = _
    rw [upd_ne ap.le_lg]
    exact sa.le
  · rw [upd_ne (ap.rs_lg p hp)]
    exact sa.rs p hp
  · rw [upd_same, List.map_append]
    rfl
  · rcases List.mem_append.mp hp with hp | hp
    · exact nel (sa.gs p hp) fun xs z => nomatch z
    · have e : p = (t, ⟨i, k, w.day, w.judge, w.country⟩) := by simpa using hp
      subst e
      exact nel ht fun xs z => nomatch z
  · rw [List.map_append, sa.gsE]
    rfl
theorem in_awards (z : Int) : decide (z ∈ ([0, 1, 4, 5, 6, 7] : List Int)) = (Kg73.within z 0 7 && (z ≠ 2 && z ≠ 3)) := by
  have two : ∀ a b : Bool, (a = true ↔ b = true) → a = b := fun a b h => by cases a <;> cases b <;> simp_all
  refine two _ _ ?_
  unfold Kg73.within
  simp
  omega
theorem pure_Book_award (T : Txt K mg c) (vs : List V) (H : Hp) (Q : VK) (E : XK) (h : sp_Book_award K c vs H Q E) : t_Book_award K c E { nx := fun _ H' => Q .non H', rt := Q } (start N_Book_award vs) H := by
  obtain ⟨n, s, g, args, call, rfl, ⟨z, z2, rfl, rfl⟩, B, G, hn, hE, hQ⟩ := h
  unfold t_Book_award
  refine q_refuse (Ex.refl H) (ev_orV (ev_notV (ev_has B (ev_var rfl) (ev_var rfl))) fun _ => ev_niG (i := z2) (ns := [0, 1, 4, 5, 6, 7]) (a := c.a_AWARDS) (ev_var rfl) ev_c (T.q_AWARDS H)) (ev_neg ev_c) (fun hb => hE _ ?_) (fun hb H1 e1 => ?_)
  · show (if (Kg73.isDog s z && (Kg73.within z2 0 7 && (z2 ≠ 2 && z2 ≠ 3))) = false then _ else _) = _
    rw [in_awards] at hb
    rw [if_pos (bnot_or hb)]
  rw [in_awards] at hb
  have hb' := bnot_or' hb
  have hb2 := hb'
  rw [Bool.and_eq_true, Bool.and_eq_true] at hb2
  obtain ⟨i, hz, hzn, hi⟩ := isDog_nat hb2.1
  obtain ⟨k, hz2, hz2n, _, hk⟩ := within_nat (lo := 0) (hi := 7) hb2.2.1
  have spec1 : ∀ {f : Kg73.Show → Kg73.State × Kg73.Ans}, (if (Kg73.isDog s z && (Kg73.within z2 0 7 && (z2 ≠ 2 && z2 ≠ 3))) = false then (s, Kg73.num (-1)) else Kg73.onShow s f) = Kg73.onShow s f := fun {f} => by
    rw [hb', if_neg (by decide)]
  refine q_on e1 B (ev_var rfl) (fun hs => hE _ (spec1.trans (on_none hs))) (fun w x hw hx sa0 H2 e2 => ?_)
  have e12 := e1.trans e2
  have v : Vw c H2 n s g w x := ⟨B.mono e12, G, Nat.le_of_lt hn, hw, hx, sa0.mono e12⟩
  subst hz hz2
  have spec2 : Kg73.spec s (.award i k) = (if (w.may s k (s.dog i).sex).contains i = false then (s, Kg73.num (-4))
      else ({ s with show_ := some (w.award i k) }, Kg73.num (w.awards.length + 1 : Nat))) := spec1.trans (on_some hw)
  refine q_asg (ev_dog T v.bk hi (ev_var rfl) (ev_var rfl)) fun H3 e3 => ?_
  have v3 := v.mono e3
  have e13 := e12.trans e3
  obtain ⟨dx, hs⟩ := v3.sa.ins
  obtain ⟨dd, wd, hd⟩ := v3.dog hi
  have hsx := dog_sex G.sex i
  have ml := may_len (k := k) (x := (s.dog i).sex) v.gw
  have comp := el_lcN (K := K) (σ := [some (.ref g.b), some (.int i), some (.int k), some (.ref x.a), some (.ref (g.at i)), none]) (H := H3) (l := w.may s k (s.dog i).sex) (val := fun j => V.ref (g.at j)) (tl := tMeth c.C_Show "may_have" (sp_Show_may_have K c) [] E0 (tVar 3) (tCons (tVar 2) (tCons (tFld K (tVar 4) "sex") tNil))) (j := 5) (vs := [5]) (t := tYes) (te := tOp rEq (tFld K (tVar 5) "number") (tVar 1)) (fun _ => true) (fun j => V.bl (decide ((j : Int) = (i : Int))))
    (el_meth (ev_var rfl) hs (nk_Show_may_have _ _ _ _ _) (ea_cons (ev_var rfl) (ea_cons (ev_fld (ev_var rfl) hd T.cl_Dog T.n_Dog_sex (lk_Dog_sex _ _ _)) ea_nil)) (v_may v3 hk hsx)) (by omega) (fun y => rfl)
    (fun j H4 e hj => fun H5 _ Q q => q H5 (Ex.refl H5)) (fun j H4 e hj _ => by
      obtain ⟨dj, wj, hdj⟩ := v3.dog (may_dog v.gw hj)
      exact ev_eqI (ev_fld (ev_var rfl) (e _ _ hdj) T.cl_Dog T.n_Dog_number (lk_Dog_number _ _ _)) (ev_var rfl))
  have bl : (w.may s k (s.dog i).sex).map (fun j : Nat => V.bl (decide ((j : Int) = (i : Int)))) = ((w.may s k (s.dog i).sex).map fun j : Nat => decide ((j : Int) = (i : Int))).map V.bl := by
    rw [List.map_map]
    rfl
  rw [List.filter_eq_self.mpr (fun _ _ => rfl), bl] at comp
  have ct : (((w.may s k (s.dog i).sex).map fun j : Nat => decide ((j : Int) = (i : Int))).any id) = (w.may s k (s.dog i).sex).contains i := by
    rw [List.any_map]
    have two : ∀ a b : Bool, (a = true ↔ b = true) → a = b := fun a b h => by cases a <;> cases b <;> simp_all
    refine two _ _ ?_
    rw [List.any_eq_true, List.contains_iff_mem]
    constructor
    · rintro ⟨j, hj, e⟩
      have e' : (j : Int) = (i : Int) := of_decide_eq_true e
      have e2 : j = i := by omega
      exact e2 ▸ hj
    · intro hj
      exact ⟨i, hj, decide_eq_true rfl⟩
  refine q_refuse e13 (ev_notV (ev_any comp)) (ev_neg ev_c) (fun hb => hE _ ?_) (fun hb H4 e4 => ?_)
  · rw [ct, Bool.not_eq_true'] at hb
    rw [spec2, if_pos hb]
  rw [ct, Bool.not_eq_false'] at hb
  have spec3 := spec2
  rw [if_neg (by rw [hb]; decide)] at spec3
  have v4 := v3.mono e4
  have e14 := e13.trans e4
  obtain ⟨dx4, hs4⟩ := v4.sa.ins
  have lg : x.gs.length = w.awards.length := by rw [← sa0.gsE, List.length_map]
  have sm := v.small
  refine q_appU (ys := [.ref (g.at i), .int (k : Nat)]) v4.sa.lg (ev_fld (ev_var rfl) hs4 T.cl_Show T.n_Show_given (lk_Show_given _ _ _ _ _)) (eu_tup (ea_cons (ev_var rfl) (ea_cons (ev_var rfl) ea_nil)) (by show 2 ≤ 100000; decide)) (by rw [List.length_map]; omega) fun t H5 ht e5 h5 => ?_
  have v5 := v4.mono e5
  have sa5 := v5.sa.award (B.apart hx) h5
  obtain ⟨dx5, hs5⟩ := sa5.ins
  refine s_retL (el_lst (vs := [.int (w.awards.length + 1 : Nat)]) (ea_cons (ev_is (ev_len (ev_fld (ev_var rfl) hs5 T.cl_Show T.n_Show_given (lk_Show_given _ _ _ _ _)) (sq_of sa5.lg)) ?_) ea_nil) (by show 1 ≤ 100000; decide)) (changed B hQ spec3 hw hx (x' := { x with gs := x.gs ++ [(t, ⟨i, k, w.day, w.judge, w.country⟩)] }) (by simp [shFoot]) (e14.trans e5) ⟨rfl, rfl, rfl, rfl, rfl⟩ sa5 (fun p hp => B.rr x hx p hp) (Ex.refl _) rfl)
  refine congrArg V.int ?_
  rw [List.length_map, List.length_append, List.length_singleton, lg]
end
end Ds

/-! A row of places is told. -/
namespace Ds
open PySem PySem.Spec PyProof.Rows L2 Evl

/-! ### the plain law -/
def rowP (s : Kg73.State) (w : Kg73.Show) (k sx i : Nat) : Bool := (s.dog i).sex == sx && (match w.entry i with
  | some e => e.class_ == k && decide (2 ≤ e.grade)
  | none => false)
def chk (s : Kg73.State) (w : Kg73.Show) (k sx : Nat) : Nat → List Nat → Bool
  | _, [] => true
  | b, i :: l => rowP s w k sx i && decide (w.grade i ≤ b) && chk s w k sx (w.grade i) l
def hd (w : Kg73.Show) (b : Nat) : List Nat → Bool
  | [] => true
  | i :: _ => decide (w.grade i ≤ b)
theorem falling_cons (w : Kg73.Show) (i : Nat) : ∀ l, Kg73.falling w (i :: l) = (hd w (w.grade i) l && Kg73.falling w l)
  | [] => rfl
  | _ :: _ => rfl
theorem chk_eq (s : Kg73.State) (w : Kg73.Show) (k sx : Nat) : ∀ (l : List Nat) (b : Nat), chk s w k sx b l = (l.all (rowP s w k sx) && (hd w b l && Kg73.falling w l))
  | [], b => rfl
  | i :: l, b => by
    rw [falling_cons]
    show (rowP s w k sx i && decide (w.grade i ≤ b) && chk s w k sx (w.grade i) l) = _
    rw [chk_eq s w k sx l, List.all_cons]
    show (rowP s w k sx i && decide (w.grade i ≤ b) && _) = (rowP s w k sx i && l.all (rowP s w k sx) && (decide (w.grade i ≤ b) && (hd w (w.grade i) l && Kg73.falling w l)))
    cases rowP s w k sx i <;> cases decide (w.grade i ≤ b) <;> cases l.all (rowP s w k sx) <;> rfl
theorem grade_le {s : Kg73.State} {w : Kg73.Show} (g : GoodW s w) (i : Nat) : w.grade i ≤ 3 := by
  unfold Kg73.Show.grade
  cases h : w.entry i with
  | none => exact Nat.zero_le _
  | some e => exact g.eGr e (List.mem_of_find?_eq_some h)
theorem chk_three {s : Kg73.State} {w : Kg73.Show} (g : GoodW s w) (k sx : Nat) (l : List Nat) : chk s w k sx 3 l = (l.all (rowP s w k sx) && Kg73.falling w l) := by
  rw [chk_eq]
  cases l with
  | nil => rfl
  | cons i l =>
    show (_ && (decide (w.grade i ≤ 3) && _)) = _
    rw [decide_eq_true (grade_le g i), Bool.true_and]
theorem rowP_iff (s : Kg73.State) (w : Kg73.Show) (k sx i : Nat) : rowP s w k sx i = (decide (((s.dog i).sex : Int) = (sx : Int)) && decide (clsOf w i = (k : Int)) && decide ((2 : Int) ≤ (w.grade i : Nat))) := by
  have e1 : ((s.dog i).sex == sx) = decide (((s.dog i).sex : Int) = (sx : Int)) := by
    by_cases h : (s.dog i).sex = sx
    · simp [h]
    · rw [decide_eq_false (by omega)]
      simpa using h
  unfold rowP clsOf Kg73.Show.grade
  rw [e1]
  cases h : w.entry i with
  | none =>
    rw [Bool.and_false, decide_eq_false (show ¬ (-1 : Int) = (k : Int) by omega), Bool.and_false, Bool.false_and]
  | some e =>
    have e2 : (e.class_ == k) = decide (((e.class_ : Nat) : Int) = (k : Int)) := by
      by_cases h : e.class_ = k
      · simp [h]
      · rw [decide_eq_false (by omega)]
        simpa using h
    have e3 : decide (2 ≤ e.grade) = decide ((2 : Int) ≤ (e.grade : Nat)) := by
      by_cases h : 2 ≤ e.grade
      · rw [decide_eq_true h, decide_eq_true (by omega)]
      · rw [decide_eq_false h, decide_eq_false (by omega)]
    show (_ && (e.class_ == k && decide (2 ≤ e.grade))) = (_ && decide (((e.class_ : Nat) : Int) = (k : Int)) && decide ((2 : Int) ≤ (e.grade : Nat)))
    rw [e2, e3, Bool.and_assoc]
theorem wrong1 {A B C D L N : Bool} (h : ((!A || (!B || !(C && D))) || !L) = true) : (A && (B && (L && (N && (C && D))))) = false := by
  cases A <;> cases B <;> cases C <;> cases D <;> cases L <;> cases N <;> simp_all
theorem wrong2 {A B C D L N : Bool} (h : (!N) = true) : (A && (B && (L && (N && (C && D))))) = false := by
  cases A <;> cases B <;> cases C <;> cases D <;> cases L <;> cases N <;> simp_all
theorem right1 {A B C D L N : Bool} (h : ((!A || (!B || !(C && D))) || !L) = false) (h2 : (!N) = false) : A = true ∧ B = true ∧ L = true ∧ N = true ∧ C = true ∧ D = true := by
  cases A <;> cases B <;> cases C <;> cases D <;> cases L <;> cases N <;> simp_all

section
variable {K : PySem.W.Frag} {mg : Str → Option Value} {c : Cs} {vs : List V} {H H0 : Hp} {Q : VK} {E : XK} {σ : L2.St} {D : Ends} {tz : TS} {te tn ta tb : TE}
variable {n : Nat} {s : Kg73.State} {g : GBook}
theorem ShowAt.row {w : Kg73.Show} {x : GShow} {H : Hp} {dl : Addr} {k sx : Nat} {r : List Nat} (sa : ShowAt c H g.at n w x) (hd : H dl = some (.lst (refs g r))) (hn : valV (rowK x.rs) [Sum.inl (k : Int), Sum.inl (sx : Int)] = none) :
    ShowAt c (upd H x.dr (.dT (putK (rowK x.rs) [Sum.inl (k : Int), Sum.inl (sx : Int)] (.ref dl)))) g.at (n + 1) { w with rows := w.rows ++ [⟨k, sx, r⟩] } { x with rs := x.rs ++ [(dl, ⟨k, sx, r⟩)] } := by
  have nel : ∀ {a : Addr} {o : HO}, H a = some o → (∀ xs, o ≠ .dT xs) → upd H x.dr (.dT (putK (rowK x.rs) [Sum.inl (k : Int), Sum.inl (sx : Int)] (.ref dl))) a = some o := fun {a o} h ho => by
    rw [upd_ne (ne_of h sa.dr (ho _))]
    exact h
  obtain ⟨dx, hi⟩ := sa.ins
  refine ⟨⟨dx, nel hi fun xs z => nomatch z⟩, nel sa.le fun xs z => (nomatch z), fun p hp => nel (sa.es p hp) fun xs z => (nomatch z), sa.esE, nel sa.dg fun xs z => (nomatch z), fun j => sa.gk j, Nat.le_succ_of_le sa.gl, ?_, fun p hp => ?_, ?_, nel sa.lg fun xs z => (nomatch z), fun p hp => nel (sa.gs p hp) fun xs z => (nomatch z), sa.gsE⟩
  · show upd H x.dr _ x.dr = _
    rw [upd_same, putK_new _ hn]
    refine congrArg (fun q => some (HO.dT q)) ?_
    unfold rowK
    rw [List.map_append]
    rfl
  · rcases List.mem_append.mp hp with hp | hp
    · exact nel (sa.rs p hp) fun xs z => nomatch z
    · have e : p = (dl, ⟨k, sx, r⟩) := by simpa using hp
      subst e
      exact nel hd fun xs z => nomatch z
  · rw [List.map_append, sa.rsE]
    rfl
theorem find_any {α : Type} (l : List α) (p : α → Bool) : (l.find? p).isSome = l.any p := by
  induction l with
  | nil => rfl
  | cons a l ih =>
    rw [List.find?_cons, List.any_cons]
    cases h : p a with
    | true => rfl
    | false => rw [Bool.false_or]; exact ih
theorem pure_Book_row (T : Txt K mg c) (vs : List V) (H : Hp) (Q : VK) (E : XK) (h : sp_Book_row K c vs H Q E) : t_Book_row K c E { nx := fun _ H' => Q .non H', rt := Q } (start N_Book_row vs) H := by
  obtain ⟨l, z, z2, ns, hS, h10, n, s, g, args, call, rfl, ⟨rfl, rfl⟩, B, G, hn, hE, hQ⟩ := h
  unfold t_Book_row
  have dC : decide ((1 : Int) ≤ ((ns.map V.int).length : Nat)) = decide (1 ≤ ns.length) := by
    rw [List.length_map]
    by_cases h : 1 ≤ ns.length
    · rw [decide_eq_true h, decide_eq_true (by omega)]
    · rw [decide_eq_false h, decide_eq_false (by omega)]
  have dD : decide (((ns.map V.int).length : Int) ≤ 4) = decide (ns.length ≤ 4) := by
    rw [List.length_map]
    by_cases h : ns.length ≤ 4
    · rw [decide_eq_true h, decide_eq_true (by omega)]
    · rw [decide_eq_false h, decide_eq_false (by omega)]
  have wr := ev_orV (ta := tNotV (tCall (sp_is_class K c) [] E0 (tCons (tVar 1) tNil))) (tb := tOrV (tOp (rIn K true) (tVar 2) (tTup (tCons (tC (.int 0)) (tCons (tC (.int 1)) tNil)))) (tNotV (tChain (rI0 fun i j => .bl (decide (i ≤ j))) (rI0 fun i j => .bl (decide (i ≤ j))) (tC (.int 1)) (tCB (rLenS K) (tCons (tVar 3) tNil)) (tC (.int 4)))))
    (σ := [some (.ref g.b), some (.int z), some (.int z2), some (.ref l), none, none, none, none, none, none, none]) (H := H) (ev_notV (ev_class (k := z) (ev_var rfl))) fun _ => ev_orV (ev_sex (z := z2) (ev_var rfl)) fun _ => ev_notV (ev_chain (f := fun i j => decide (i ≤ j)) (f' := fun i j => decide (i ≤ j)) ev_c (ev_len (ev_var rfl) hS) ev_c)
  rw [dC, dD] at wr
  refine q_asg wr fun H1 e1 => ?_
  have B1 := B.mono e1
  have hS1 := ex_l e1 hS
  have comp := el_lc (K := K) (σ := [some (.ref g.b), some (.int z), some (.int z2), some (.ref l), some (.bl (!Kg73.within z 0 6 || (!Kg73.within z2 0 1 || !(decide (1 ≤ ns.length) && decide (ns.length ≤ 4))))), none, none, none, none, none, none]) (H := H1) (l := ns) (val := V.int) (tl := tVar 3) (j := 10) (vs := [10]) (t := tYes) (te := tMeth c.C_Book "has_dog" (sp_Book_has_dog K c) [] E0 (tVar 0) (tCons (tVar 10) tNil)) (fun _ => true) (fun q => V.bl (Kg73.isDog s q))
    (ev_var rfl) hS1 (by omega) (fun y => rfl) (fun q H4 e hq => fun H5 _ Q q => q H5 (Ex.refl H5)) (fun q H4 e hq _ => ev_has (B1.mono e) (ev_var rfl) (ev_var rfl))
  have bl : ns.map (fun q => V.bl (Kg73.isDog s q)) = (ns.map (Kg73.isDog s)).map V.bl := by
    rw [List.map_map]
    rfl
  rw [List.filter_eq_self.mpr (fun _ _ => rfl), bl] at comp
  have al : (ns.map (Kg73.isDog s)).all id = ns.all (Kg73.isDog s) := by
    rw [List.all_map]
    rfl
  have spec0 : Kg73.spec s (.row z z2 ns) = if (Kg73.within z 0 6 && (Kg73.within z2 0 1 && (ns.all (Kg73.isDog s) && (decide ns.Nodup && (decide (1 ≤ ns.length) && decide (ns.length ≤ 4)))))) = false then (s, Kg73.num (-1)) else Kg73.onShow s fun w =>
    let r := ns.map Int.toNat
    if r.all (fun i => (s.dog i).sex == z2.toNat && (match w.entry i with
      | some e => e.class_ == z.toNat && decide (2 ≤ e.grade)
      | none => false)) = false ∨ Kg73.falling w r = false then (s, Kg73.num (-4))
    else if (w.rows.any fun q => q.class_ == z.toNat && q.sex == z2.toNat) = true ∨ w.awards ≠ [] then (s, Kg73.num (-5))
    else (Kg73.put s { w with rows := w.rows ++ [⟨z.toNat, z2.toNat, r⟩] }, Kg73.num r.length) := rfl
  refine q_refuse e1 (ev_orV (ev_var rfl) fun _ => ev_notV (ev_all comp)) (ev_neg ev_c) (fun hb => hE _ ?_) (fun hb H2 e2 => ?_)
  · rw [al] at hb
    rw [spec0, if_pos (wrong1 hb)]
  rw [al] at hb
  have e12 := e1.trans e2
  refine q_refuse e12 (ev_I0 (ev_lenSetV (ev_var rfl) (ex_l e12 hS) (by omega)) (ev_len (ev_var rfl) (ex_l e12 hS))) (ev_neg ev_c) (fun hb2 => hE _ ?_) (fun hb2 H3 e3 => ?_)
  · rw [List.length_map, distinct_lt] at hb2
    rw [spec0, if_pos (wrong2 hb2)]
  rw [List.length_map, distinct_lt] at hb2
  obtain ⟨rA, rB, rL, rN, rC, rD⟩ := right1 hb hb2
  have e13 := e12.trans e3
  have spec1 := spec0
  rw [rA, rB, rL, rN, rC, rD, if_neg (by decide)] at spec1
  obtain ⟨k, hz, hzn, _, hk⟩ := within_nat (lo := 0) (hi := 6) rA
  obtain ⟨sx, hz2, hz2n, _, hsx⟩ := within_nat (lo := 0) (hi := 1) rB
  refine q_on e13 B (ev_var rfl) (fun hs => hE _ (spec1.trans (on_none hs))) (fun w x hw hx sa0 H4 e4 => ?_)
  have e14 := e13.trans e4
  have v : Vw c H4 n s g w x := ⟨B.mono e14, G, Nat.le_of_lt hn, hw, hx, sa0.mono e14⟩
  have gw := v.gw
  subst hz hz2
  have each : ∀ q ∈ ns, ∃ i : Nat, q = (i : Int) ∧ q.toNat = i ∧ i < s.dogs.length := fun q hq => isDog_nat (List.all_eq_true.mp rL q hq)
  -- the row as numbers of dogs
  generalize hr : ns.map Int.toNat = r at spec1
  have rlen : r.length = ns.length := by rw [← hr, List.length_map]
  have rlt : ∀ i ∈ r, i < s.dogs.length := fun i hi => by
    rw [← hr] at hi
    obtain ⟨q, hq, rfl⟩ := List.mem_map.mp hi
    obtain ⟨j, _, h2, h3⟩ := each q hq
    omega
  have spec2 : Kg73.spec s (.row k sx ns) = (if r.all (rowP s w k sx) = false ∨ Kg73.falling w r = false then (s, Kg73.num (-4))
    else if (w.rows.any fun q => q.class_ == k && q.sex == sx) = true ∨ w.awards ≠ [] then (s, Kg73.num (-5))
    else ({ s with show_ := some { w with rows := w.rows ++ [⟨k, sx, r⟩] } }, Kg73.num r.length)) := spec1.trans (on_some hw)
  have spec4 : chk s w k sx 3 r = false → Kg73.spec s (.row k sx ns) = (s, Kg73.num (-4)) := fun hc => by
    rw [chk_three gw, Bool.and_eq_false_iff] at hc
    rw [spec2, if_pos hc]
  -- dogs = [..]
  have comp2 := el_lc (K := K) (σ := [some (.ref g.b), some (.int k), some (.int sx), some (.ref l), some (.bl (!Kg73.within k 0 6 || (!Kg73.within sx 0 1 || !(decide (1 ≤ ns.length) && decide (ns.length ≤ 4))))), some (.ref x.a), none, none, none, none, none]) (H := H4) (l := ns) (val := V.int) (tl := tVar 3) (j := 10) (vs := [10]) (t := tYes) (te := tOp (rIxL K) (tFld K (tVar 0) "dogs") (tVar 10)) (fun _ => true) (fun q => V.ref (g.at q.toNat))
    (ev_var rfl) (ex_l e14 hS) (by omega) (fun y => rfl) (fun q H4 e hq => fun H5 _ Q q => q H5 (Ex.refl H5)) (fun q H5 e hq _ => by
      obtain ⟨j, h1, h2, h3⟩ := each q hq
      have r := ev_dog (K := K) (σ := List.set (wipe [some (.ref g.b), some (.int k), some (.int sx), some (.ref l), some (.bl (!Kg73.within k 0 6 || (!Kg73.within sx 0 1 || !(decide (1 ≤ ns.length) && decide (ns.length ≤ 4))))), some (.ref x.a), none, none, none, none, none] [10]) 10 (some (.int q))) (ta := tVar 0) (tb := tVar 10) T (v.bk.mono e) h3 (ev_var rfl) (ev_var (by rw [h1]; rfl))
      rw [h2]
      exact r)
  have rf : ns.map (fun q => V.ref (g.at q.toNat)) = refs g r := by
    rw [← hr]
    unfold refs
    rw [List.map_map]
    rfl
  rw [List.filter_eq_self.mpr (fun _ _ => rfl), rf] at comp2
  refine q_asgL comp2 fun dl H5 hdl e5 h5 => ?_
  refine q_asg ev_c fun H6 e6 => ?_
  have e16 := (e14.trans e5).trans e6
  have h6 := e6 _ _ h5
  have dl0 : H dl = none := fresh_back e14 hdl
  have v6 := (v.mono e5).mono e6
  refine q_forM (l := r) (val := fun i => V.ref (g.at i)) (ev_var rfl) (sq_of h6)
    (fun m σ' H' => (∃ (b : Nat) (a8 a9 : Option V), σ' = [some (.ref g.b), some (.int k), some (.int sx), some (.ref l), some (.bl (!Kg73.within k 0 6 || (!Kg73.within sx 0 1 || !(decide (1 ≤ ns.length) && decide (ns.length ≤ 4))))), some (.ref x.a), some (.ref dl), some (.int (b : Nat)), a8, a9, none] ∧ chk s w k sx 3 r = chk s w k sx b (r.drop m)) ∧ Ex H6 H')
    (fun H7 e7 => ⟨⟨3, none, none, rfl, rfl⟩, e7⟩) (fun m σ' H' pv => sq_of (pv.2 _ _ h6)) (fun m i σ' H' hm pv => ?_) (fun σ' H' pv => ?_)
  · obtain ⟨⟨b, a8, a9, rfl, hc⟩, ex⟩ := pv
    have hi : i < s.dogs.length := rlt i (List.mem_of_getElem? hm)
    have hdrop : r.drop m = i :: r.drop (m + 1) := by
      obtain ⟨hlt, e⟩ := List.getElem?_eq_some_iff.mp hm
      rw [List.drop_eq_getElem_cons hlt, e]
    rw [hdrop] at hc
    have hc' : chk s w k sx 3 r = (rowP s w k sx i && decide (w.grade i ≤ b) && chk s w k sx (w.grade i) (r.drop (m + 1))) := hc
    rw [rowP_iff] at hc'
    have v7 := v6.mono ex
    have e17 := e16.trans ex
    obtain ⟨dx, hs⟩ := v7.sa.ins
    obtain ⟨dd, wd, hd⟩ := v7.dog hi
    refine q_asg (ev_meth (ev_var rfl) hs (nk_Show_grade_of _ _ _ _ _) (ea_cons (ev_var rfl) ea_nil) (v_grade v7 hi)) fun H7 e7 => ?_
    have v8 := v7.mono e7
    have hd8 := e7 _ _ hd
    refine q_refuse (e17.trans e7) (ev_orV (ev_neI (i := ((s.dog i).sex : Nat)) (j := sx) (ev_fld (ev_var rfl) hd8 T.cl_Dog T.n_Dog_sex (lk_Dog_sex _ _ _)) (ev_var rfl)) fun _ => ev_neI (j := k) (ev_clsOf v8 hi (ev_var rfl) (ev_var rfl)) (ev_var rfl)) (ev_neg ev_c) (fun hb => hE _ (spec4 ?_)) (fun hb H8 e8 => ?_)
    · rw [hc']
      rw [Bool.or_eq_true, Bool.not_eq_true', Bool.not_eq_true'] at hb
      rcases hb with hb | hb
      · rw [hb]; simp
      · rw [hb]; simp
    rw [Bool.or_eq_false_iff, Bool.not_eq_false', Bool.not_eq_false'] at hb
    rw [hb.1, hb.2, Bool.true_and, Bool.true_and] at hc'
    refine q_refuse ((e17.trans e7).trans e8) (ev_orV (ev_I0 (i := (w.grade i : Nat)) (j := 2) (ev_var rfl) ev_c) fun _ => ev_I0 (i := (w.grade i : Nat)) (j := (b : Nat)) (ev_var rfl) (ev_var rfl)) (ev_neg ev_c) (fun hb => hE _ (spec4 ?_)) (fun hb H9 e9 => ?_)
    · rw [hc']
      rw [Bool.or_eq_true, decide_eq_true_eq, decide_eq_true_eq] at hb
      rcases hb with hb | hb
      · rw [decide_eq_false (show ¬ (2 : Int) ≤ (w.grade i : Nat) by omega)]; rfl
      · rw [decide_eq_false (show ¬ w.grade i ≤ b by omega)]; simp
    rw [Bool.or_eq_false_iff, decide_eq_false_iff_not, decide_eq_false_iff_not] at hb
    rw [decide_eq_true (show (2 : Int) ≤ (w.grade i : Nat) by omega), decide_eq_true (show w.grade i ≤ b by omega), Bool.true_and, Bool.true_and] at hc'
    exact s_asg (ev_var rfl) fun H10 e10 => ⟨⟨w.grade i, _, _, rfl, hc'⟩, ((ex.trans e7).trans e8).trans (e9.trans e10)⟩
  · obtain ⟨⟨b, a8, a9, rfl, hc⟩, ex⟩ := pv
    rw [List.drop_length] at hc
    have hc' : chk s w k sx 3 r = true := hc
    rw [chk_three gw, Bool.and_eq_true] at hc'
    have spec5 := spec2
    rw [if_neg (fun z => z.elim (fun y => by rw [hc'.1] at y; cases y) fun y => by rw [hc'.2] at y; cases y)] at spec5
    have v7 := v6.mono ex
    have e17 := e16.trans ex
    obtain ⟨dx, hs⟩ := v7.sa.ins
    have anyE : (valV (rowK x.rs) [Sum.inl (k : Int), Sum.inl (sx : Int)]).isSome = w.rows.any fun q => q.class_ == k && q.sex == sx := by
      rw [rowK_val, Option.isSome_map, find_any, ← sa0.rsE, List.any_map]
      rfl
    have lg : x.gs.length = w.awards.length := by rw [← sa0.gsE, List.length_map]
    have t5 := ev_orV (ev_inT (σ := [some (.ref g.b), some (.int k), some (.int sx), some (.ref l), some (.bl (!Kg73.within k 0 6 || (!Kg73.within sx 0 1 || !(decide (1 ≤ ns.length) && decide (ns.length ≤ 4))))), some (.ref x.a), some (.ref dl), some (.int (b : Nat)), a8, a9, none]) (k := [Sum.inl (k : Int), Sum.inl (sx : Int)]) (eu_tup (vs := [.int (k : Nat), .int (sx : Nat)]) (ea_cons (ev_var (i := 1) rfl) (ea_cons (ev_var (i := 2) rfl) ea_nil)) (by show 2 ≤ 100000; decide)) (ev_fld (K := K) (ev_var (i := 5) rfl) hs T.cl_Show T.n_Show_rows (lk_Show_rows _ _ _ _ _)) v7.sa.dr)
      fun _ => ev_I0 (f := fun i j => .bl (decide (j < i))) (ev_len (ev_fld (K := K) (ev_var (i := 5) rfl) hs T.cl_Show T.n_Show_given (lk_Show_given _ _ _ _ _)) (sq_of (K := K) v7.sa.lg)) (ev_c (v := .int 0))
    rw [anyE, List.length_map, lg, len_pos] at t5
    refine q_refuse e17 t5 (ev_neg ev_c) (fun hb => hE _ ?_) (fun hb H7 e7 => ?_)
    · rw [Bool.or_eq_true, decide_eq_true_eq] at hb
      rw [spec5, if_pos hb]
    rw [Bool.or_eq_false_iff, decide_eq_false_iff_not] at hb
    have spec6 := spec5
    rw [if_neg (fun z => z.elim (fun y => by rw [hb.1] at y; cases y) hb.2)] at spec6
    have hnone : valV (rowK x.rs) [Sum.inl (k : Int), Sum.inl (sx : Int)] = none := by
      cases h : valV (rowK x.rs) [Sum.inl (k : Int), Sum.inl (sx : Int)] with
      | none => rfl
      | some u => rw [h, hb.1] at anyE; cases anyE
    have v8 := v7.mono e7
    obtain ⟨dx8, hs8⟩ := v8.sa.ins
    have sm := v.small
    have rl : (rowK x.rs).length < 100000 := by
      rw [rowK_len]
      have : x.rs.length = w.rows.length := by rw [← sa0.rsE, List.length_map]
      omega
    have h8 := e7 _ _ (ex _ _ h6)
    refine q_putT (ks := [Sum.inl (k : Int), Sum.inl (sx : Int)]) (v := .ref dl) (ev_var rfl) (ev_fld (ev_var rfl) hs8 T.cl_Show T.n_Show_rows (lk_Show_rows _ _ _ _ _)) (eu_tup (vs := [.int (k : Nat), .int (sx : Nat)]) (ea_cons (ev_var rfl) (ea_cons (ev_var rfl) ea_nil)) (by show 2 ≤ 100000; decide)) v8.sa.dr rl fun t H9 ht e9 h9 => ?_
    have v9 := v8.mono e9
    have h9' := e9 _ _ h8
    have sa9 := v9.sa.row (k := k) (sx := sx) h9' hnone
    have hdn : upd H9 x.dr (.dT (putK (rowK x.rs) [Sum.inl (k : Int), Sum.inl (sx : Int)] (.ref dl))) dl = some (.lst (refs g r)) := by
      rw [upd_ne (ne_of h9' v9.sa.dr (fun z => nomatch z))]
      exact h9'
    refine s_retL (el_lst (vs := [.int (r.length : Nat)]) (ea_cons (ev_is (ev_len (ev_var rfl) (sq_of hdn)) (by unfold refs; rw [List.length_map])) ea_nil) (by show 1 ≤ 100000; decide)) (changed B hQ spec6 hw hx (x' := { x with rs := x.rs ++ [(dl, ⟨k, sx, r⟩)] }) (by simp [shFoot]) ((e17.trans e7).trans e9) ⟨rfl, rfl, rfl, rfl, rfl⟩ sa9 (fun p hp => ?_) (Ex.refl _) rfl)
    rcases List.mem_append.mp hp with hp | hp
    · exact B.rr x hx p hp
    · have e : p = (dl, ⟨k, sx, r⟩) := by simpa using hp
      subst e
      exact B.new_foot dl0
end
end Ds

/-! New dogs, new shows. -/
namespace Ds
open PySem PySem.Spec PyProof.Rows L2 Evl

/-- a new instance p, P of the heap ahead, of p and of the heap behind -/
def EvN (te : TE) (σ : L2.St) (H : Hp) (P : Hp → Addr → Hp → Prop) : Prop := ∀ H1, Ex H H1 → ∀ Q : VK, (∀ p H2, H1 p = none → Ex H1 H2 → P H1 p H2 → Q (.ref p) H2) → te σ H1 Q
section
variable {K : PySem.W.Frag} {mg : Str → Option Value} {c : Cs} {vs : List V} {H H0 : Hp} {Q : VK} {E : XK} {σ : L2.St} {D : Ends} {tz : TS} {te tn ta tb : TE}
variable {n : Nat} {s : Kg73.State} {g : GBook}
theorem made_ex {H1 H2 H' : Hp} {x dx C : Addr} (e : Ex H1 H2) (nx : H2 x = none) (nd : H2 dx = none) (keep : ∀ q o, upd (upd H2 dx (.own x)) x (.ins C dx []) q = some o → q ≠ x → H' q = some o) : Ex H1 H' := fun a o h => by
  have h2 := e a o h
  have ax : a ≠ x := ne_of_none h2 nx
  have ad : a ≠ dx := ne_of_none h2 nd
  exact keep a o (by rw [upd_ne ax, upd_ne ad]; exact h2) ax
theorem made_none {H2 : Hp} {x dx C l : Addr} (hl : upd (upd H2 dx (.own x)) x (.ins C dx []) l = none) (hx : l ≠ x) : H2 l = none := by
  rw [upd_ne hx] at hl
  by_cases h : l = dx
  · rw [h, upd_same] at hl
    cases hl
  · rw [upd_ne h] at hl
    exact hl
def isDogNew (c : Cs) (i x b : Int) (w : Bool) (H1 : Hp) (p : Addr) (H2 : Hp) : Prop := ∃ dx aw, H1 aw = none ∧ aw ≠ p ∧ H2 aw = some (.lst []) ∧ H2 p = some (.ins c.C_Dog dx [("number", .int i), ("sex", .int x), ("born", .int b), ("worked", .bl w), ("awards", .ref aw)])
theorem ev_mkDog {tr : TA} {i x b : Int} {w : Bool} (hv : EvA tr σ H [.int i, .int x, .int b, .bl w]) : EvN (tMake c.C_Dog (sp_Dog_init K c) [] E0 tr) σ H (isDogNew c i x b w) := fun H1 e Q q => hv H1 e _ fun H2 e2 => by
  intro p dx np nd ne
  refine ⟨p, dx, i, x, b, w, rfl, upd_same, fun l H' hl hlp keep hl' hp' => ⟨rfl, ?_⟩⟩
  exact q p H' (fresh_back e2 np) (made_ex e2 np nd keep) ⟨dx, l, fresh_back e2 (made_none hl hlp), hlp, hl', hp'⟩
def isShowNew (c : Cs) (d j k : Int) (w : Bool) (H1 : Hp) (p : Addr) (H2 : Hp) : Prop := ∃ dx le dg dr lg, H1 le = none ∧ H1 dg = none ∧ H1 dr = none ∧ H1 lg = none ∧ [le, dg, dr, lg].Nodup ∧ p ∉ [le, dg, dr, lg] ∧ H2 le = some (.lst []) ∧ H2 dg = some (.dK []) ∧ H2 dr = some (.dT []) ∧ H2 lg = some (.lst []) ∧
  H2 p = some (.ins c.C_Show dx [("day", .int d), ("judge", .int j), ("country", .int k), ("international", .bl w), ("entered", .ref le), ("grades", .ref dg), ("rows", .ref dr), ("given", .ref lg)])
theorem ev_mkShow {tr : TA} {d j k : Int} {w : Bool} (hv : EvA tr σ H [.int d, .int j, .int k, .bl w]) : EvN (tMake c.C_Show (sp_Show_init K c) [] E0 tr) σ H (isShowNew c d j k w) := fun H1 e Q q => hv H1 e _ fun H2 e2 => by
  intro p dx np nd ne
  refine ⟨p, dx, d, j, k, w, rfl, upd_same, fun le dg dr lg H' h1 h2 h3 h4 hn hp keep k1 k2 k3 k4 k5 => ⟨rfl, ?_⟩⟩
  have ne1 : le ≠ p := fun z => hp (by simp [z])
  have ne2 : dg ≠ p := fun z => hp (by simp [z])
  have ne3 : dr ≠ p := fun z => hp (by simp [z])
  have ne4 : lg ≠ p := fun z => hp (by simp [z])
  exact q p H' (fresh_back e2 np) (made_ex e2 np nd keep) ⟨dx, le, dg, dr, lg, fresh_back e2 (made_none h1 ne1), fresh_back e2 (made_none h2 ne2), fresh_back e2 (made_none h3 ne3), fresh_back e2 (made_none h4 ne4), hn, hp, k1, k2, k3, k4, k5⟩
theorem q_appN {l : Addr} {xs : List V} {P : Hp → Addr → Hp → Prop} (hl : H l = some (.lst xs)) (ha : Ev ta σ H (.ref l)) (h : EvN te σ H P) (hz : xs.length < 100000)
    (k : ∀ p H1 H2, H1 p = none → Ex H H1 → Ex H1 H2 → P H1 p H2 → tz D σ (upd H2 l (.lst (xs ++ [.ref p])))) : tSeq (tDrop (tBM K "list" rAppend ta (tCons te tNil))) tz D σ H := ha H (Ex.refl H) _ fun H1 e1 =>
  ⟨Or.inl ⟨rfl, xs, sq_of (e1 l _ hl)⟩, h H1 e1 _ fun p H2 hp e2 hP => ⟨l, xs, .ref p, rfl, rfl, e2 l _ (e1 l _ hl), sz_lt hz, k p H1 H2 hp e1 e2 hP⟩⟩
theorem q_fldN {b C dx : Addr} {fs : List (Str × V)} {f : Str} {P : Hp → Addr → Hp → Prop} (h : EvN te σ H P) (ha : Ev ta σ H (.ref b)) (ho : H b = some (.ins C dx fs)) (cl : Cls K C) (na : NoAttr K C f) (hl : fs.length < 1000)
    (k : ∀ p H1 H2, H p = none → Ex H H1 → P H p H1 → Ex H1 H2 → tz D σ (upd H2 b (.ins C dx (putF f (.ref p) fs)))) : tSeq (sFld K ta te f) tz D σ H := h H (Ex.refl H) _ fun p H1 hp e1 hP => ha H1 e1 _ fun H2 e2 =>
  ⟨b, C, dx, fs, rfl, (e1.trans e2) _ _ ho, cl, na, hl, k p H1 H2 hp e1 hP e2⟩
theorem q_fld {b C dx : Addr} {fs : List (Str × V)} {f : Str} {v : V} (h : Ev te σ H v) (ha : Ev ta σ H (.ref b)) (ho : H b = some (.ins C dx fs)) (cl : Cls K C) (na : NoAttr K C f) (hl : fs.length < 1000)
    (k : ∀ H1, Ex H H1 → tz D σ (upd H1 b (.ins C dx (putF f v fs)))) : tSeq (sFld K ta te f) tz D σ H := h H (Ex.refl H) _ fun H1 e1 => ha H1 e1 _ fun H2 e2 =>
  ⟨b, C, dx, fs, rfl, (e1.trans e2) _ _ ho, cl, na, hl, k H2 (e1.trans e2)⟩
theorem q_unl3 {l : Addr} {v1 v2 v3 : V} {i j m : Nat} (h : Ev te σ H (.ref l)) (hS : SqL K H l [v1, v2, v3]) (k : ∀ H1, Ex H H1 → tz D (((σ.set i (some v1)).set j (some v2)).set m (some v3)) H1) :
    tSeq (tAsg te (gUnl K 3 (gCons (gName i) (gCons (gName j) (gCons (gName m) gNil))))) tz D σ H := h H (Ex.refl H) _ fun H1 e1 => ⟨l, _, rfl, ex_l e1 hS, rfl, _, _, rfl, _, _, rfl, _, _, rfl, rfl, k H1 e1⟩
theorem q_unl4 {l : Addr} {v1 v2 v3 v4 : V} {i j m r : Nat} (h : Ev te σ H (.ref l)) (hS : SqL K H l [v1, v2, v3, v4]) (k : ∀ H1, Ex H H1 → tz D ((((σ.set i (some v1)).set j (some v2)).set m (some v3)).set r (some v4)) H1) :
    tSeq (tAsg te (gUnl K 4 (gCons (gName i) (gCons (gName j) (gCons (gName m) (gCons (gName r) gNil)))))) tz D σ H := h H (Ex.refl H) _ fun H1 e1 => ⟨l, _, rfl, ex_l e1 hS, rfl, _, _, rfl, _, _, rfl, _, _, rfl, _, _, rfl, rfl, k H1 e1⟩

/-! ### a new dog -/
theorem at_old {g : GBook} {x : GDog} {i : Nat} (h : i < g.ds.length) : ({ g with ds := g.ds ++ [x] } : GBook).at i = g.at i := by
  unfold GBook.at
  rw [List.getD_eq_getElem?_getD, List.getD_eq_getElem?_getD, List.map_append, List.getElem?_append_left (by rw [List.length_map]; exact h)]
theorem ShowAt.congr {w : Kg73.Show} {x : GShow} {H : Hp} {da da' : Nat → Addr} (sa : ShowAt c H da n w x) (he : ∀ p ∈ x.es, da' p.2.dog = da p.2.dog) (hr : ∀ p ∈ x.rs, ∀ i ∈ p.2.dogs, da' i = da i) (hg : ∀ p ∈ x.gs, da' p.2.dog = da p.2.dog) : ShowAt c H da' n w x :=
  ⟨sa.ins, sa.le, fun p hp => by rw [he p hp]; exact sa.es p hp, sa.esE, sa.dg, sa.gk, sa.gl, sa.dr, fun p hp => by
    rw [sa.rs p hp]
    exact congrArg (fun q => some (HO.lst q)) (List.map_congr_left fun i hi => by rw [hr p hp i hi]), sa.rsE, sa.lg, fun p hp => by rw [hg p hp]; exact sa.gs p hp, sa.gsE⟩
theorem foot_parts (B : BookAt c H n s g) : g.b ∉ g.ld :: (shFoot g.sh ++ g.ds.map GDog.aw) ∧ g.ld ∉ shFoot g.sh ++ g.ds.map GDog.aw ∧ (shFoot g.sh).Nodup ∧ (g.ds.map GDog.aw).Nodup ∧ ∀ a ∈ shFoot g.sh, ∀ b ∈ g.ds.map GDog.aw, a ≠ b := by
  have nd := B.nd
  unfold GBook.foot at nd
  rw [List.nodup_cons, List.nodup_cons, List.nodup_append] at nd
  exact ⟨nd.1, nd.2.1, nd.2.2.1, nd.2.2.2.1, nd.2.2.2.2⟩
/-- one list of the book's is written, that is none of the show's -/
theorem ShowAt.other {w : Kg73.Show} {x : GShow} {da : Nat → Addr} {H : Hp} {m : Addr} {xs ys : List V} (sa : ShowAt c H da n w x) (hm : H m = some (.lst xs)) (h1 : m ∉ shFoot (some x)) (h2 : ∀ p ∈ x.rs, p.1 ≠ m) : ShowAt c (upd H m (.lst ys)) da n w x := by
  have nel : ∀ {a : Addr} {o : HO}, H a = some o → (∀ xs, o ≠ .lst xs) → upd H m (.lst ys) a = some o := fun {a o} h ho => by
    rw [upd_ne (ne_of h hm (ho _))]
    exact h
  obtain ⟨dx, hi⟩ := sa.ins
  have n1 : x.le ≠ m := fun z => h1 (by simp [shFoot, z])
  have n2 : x.lg ≠ m := fun z => h1 (by simp [shFoot, z])
  refine ⟨⟨dx, nel hi fun xs z => nomatch z⟩, ?_, fun p hp => nel (sa.es p hp) fun xs z => (nomatch z), sa.esE, nel sa.dg fun xs z => (nomatch z), sa.gk, sa.gl, nel sa.dr fun xs z => (nomatch z), fun p hp => ?_, sa.rsE, ?_, fun p hp => nel (sa.gs p hp) fun xs z => (nomatch z), sa.gsE⟩
  · rw [upd_ne n1]; exact sa.le
  · rw [upd_ne (h2 p hp)]; exact sa.rs p hp
  · rw [upd_ne n2]; exact sa.lg
theorem BookAt.addDog (B : BookAt c H n s g) (G : Good s n) (hn : n ≤ 250) {Hx : Hp} {p dx aw : Addr} {d : Kg73.Dog} (ex : Ex H Hx) (hp : H p = none) (haw : H aw = none) (h1 : Hx p = some (.ins c.C_Dog dx (dogF s.dogs.length d aw))) (h2 : Hx aw = some (.lst [])) :
    BookAt c (upd Hx g.ld (.lst ((g.ds.map fun d => V.ref d.a) ++ [.ref p]))) (n + 1) { s with dogs := s.dogs ++ [d] } { g with ds := g.ds ++ [⟨p, aw, []⟩] } := by
  obtain ⟨f1, f2, f3, f4, f5⟩ := foot_parts B
  have hld := ex _ _ B.ld
  have nel : ∀ {a : Addr} {o : HO}, Hx a = some o → (∀ xs, o ≠ .lst xs) → upd Hx g.ld (.lst ((g.ds.map fun d => V.ref d.a) ++ [.ref p])) a = some o := fun {a o} h ho => by
    rw [upd_ne (ne_of h hld (ho _))]
    exact h
  have awf : aw ∉ g.foot := B.new_foot haw
  have awl : aw ≠ g.ld := fun z => awf (by unfold GBook.foot; rw [z]; simp)
  have hft : ({ g with ds := g.ds ++ [⟨p, aw, []⟩] } : GBook).foot = g.foot ++ [aw] := by
    unfold GBook.foot
    rw [List.map_append]
    simp
  have lens : g.ds.length = s.dogs.length := B.dn
  refine ⟨?_, ?_, ?_, fun i d' x hd hx => ?_, B.no, fun w hw => ?_, ?_, fun x hx q hq => ?_⟩
  · obtain ⟨dx, h⟩ := B.ins
    exact ⟨dx, nel (ex _ _ h) fun xs z => nomatch z⟩
  · rw [upd_same, List.map_append]
    rfl
  · rw [List.length_append, List.length_append, lens]
    rfl
  · by_cases hi : i < g.ds.length
    · rw [List.getElem?_append_left hi] at hx
      rw [List.getElem?_append_left (by rw [← lens]; exact hi)] at hd
      have dd := (B.ds i d' x hd hx).mono ex
      obtain ⟨⟨dy, a1⟩, a2, a3, a4⟩ := dd
      refine ⟨⟨dy, nel a1 fun xs z => nomatch z⟩, ?_, fun q hq => ?_, a4⟩
      · rw [upd_ne]
        · exact a2
        · intro z
          exact f2 (List.mem_append_right _ (z ▸ List.mem_map.mpr ⟨x, List.mem_of_getElem? hx, rfl⟩))
      · obtain ⟨dz, a5⟩ := a3 q hq
        exact ⟨dz, nel a5 fun xs z => nomatch z⟩
    · have hi' : i < g.ds.length + 1 := by
        have := (List.getElem?_eq_some_iff.mp hx).1
        rw [List.length_append] at this
        exact this
      have ei : i = g.ds.length := by omega
      subst ei
      rw [List.getElem?_append_right (Nat.le_refl _), Nat.sub_self] at hx
      rw [lens, List.getElem?_append_right (Nat.le_refl _), Nat.sub_self] at hd
      have e1 : (⟨p, aw, []⟩ : GDog) = x := Option.some.inj hx
      have e2 : d = d' := Option.some.inj hd
      subst e1 e2
      have nk : keptOf s.kept g.ds.length = [] := by
        unfold keptOf
        rw [List.filter_eq_nil_iff]
        intro a ha z
        have := G.kd a ha
        have z' : a.dog = g.ds.length := by simpa using z
        omega
      refine ⟨⟨dx, ?_⟩, ?_, (fun q hq => nomatch hq), nk.symm⟩
      · rw [← lens] at h1
        exact nel h1 fun xs z => nomatch z
      · show upd Hx g.ld _ aw = _
        rw [upd_ne awl]
        exact h2
  · obtain ⟨x, hx, sa⟩ := B.on w hw
    have v : Vw c H n s g w x := ⟨B, G, hn, hw, hx, sa⟩
    refine ⟨x, hx, ?_⟩
    have sa1 := (sa.mono ex).other (ys := (g.ds.map fun d => V.ref d.a) ++ [.ref p]) hld (fun z => f2 (by rw [hx]; exact List.mem_append_left _ z)) (fun q hq z => B.rr x hx q hq (by unfold GBook.foot; rw [z]; simp))
    refine (sa1.more (Nat.le_succ n)).congr (fun q hq => at_old (by rw [lens]; exact v.esDog hq)) (fun q hq i hi => at_old ?_) (fun q hq => at_old (by rw [lens]; exact v.gsDog hq))
    have m : q.2 ∈ w.rows := by rw [← sa.rsE]; exact List.mem_map.mpr ⟨q, hq, rfl⟩
    rw [lens]
    exact (v.gw.rDog _ m i hi).1
  · rw [hft, List.nodup_append]
    refine ⟨B.nd, by simp, fun a ha b hb z => ?_⟩
    have e : b = aw := by simpa using hb
    rw [z, e] at ha
    exact awf ha
  · rw [hft]
    intro z
    rcases List.mem_append.mp z with z | z
    · exact B.rr x hx q hq z
    · have e : q.1 = aw := by simpa using z
      obtain ⟨w, hw⟩ : ∃ w, s.show_ = some w := by
        cases hs : s.show_ with
        | none => rw [B.no hs] at hx; cases hx
        | some w => exact ⟨w, rfl⟩
      obtain ⟨x', hx', sa⟩ := B.on w hw
      have hx2 : g.sh = some x := hx
      rw [hx2] at hx'
      cases hx'
      have r := sa.rs q hq
      rw [e, haw] at r
      cases r
theorem pure_Book_add_dog (T : Txt K mg c) (vs : List V) (H : Hp) (Q : VK) (E : XK) (h : sp_Book_add_dog K c vs H Q E) : t_Book_add_dog K c E { nx := fun _ H' => Q .non H', rt := Q } (start N_Book_add_dog vs) H := by
  obtain ⟨l, x, b, wk, hS, n, s, g, args, call, rfl, ⟨rfl, rfl⟩, B, G, hn, hE, hQ⟩ := h
  unfold t_Book_add_dog
  refine q_unl3 (ev_var rfl) hS fun H1 e1 => ?_
  have B1 := B.mono e1
  have spec0 : Kg73.spec s (.dog x b wk) = if (Kg73.within x 0 1 && (Kg73.within b 0 100000 && Kg73.within wk 0 1)) = false then (s, Kg73.num (-1)) else if 60 ≤ s.dogs.length then (s, Kg73.num (-5)) else ({ s with dogs := s.dogs ++ [⟨x.toNat, b.toNat, wk == 1⟩] }, Kg73.num s.dogs.length) := rfl
  refine q_refuse e1 (ev_orV (ev_sex (z := x) (ev_var rfl)) fun _ => ev_orV (ev_sex (z := wk) (ev_var rfl)) fun _ => ev_out (z := b) (ev_var rfl)) (ev_neg ev_c) (fun hb => hE _ ?_) (fun hb H2 e2 => ?_)
  · rw [spec0, if_pos]
    revert hb
    cases Kg73.within x 0 1 <;> cases Kg73.within wk 0 1 <;> cases Kg73.within b 0 100000 <;> simp
  have hb' : Kg73.within x 0 1 = true ∧ Kg73.within b 0 100000 = true ∧ Kg73.within wk 0 1 = true := by
    revert hb
    cases Kg73.within x 0 1 <;> cases Kg73.within wk 0 1 <;> cases Kg73.within b 0 100000 <;> simp
  have spec1 := spec0
  rw [hb'.1, hb'.2.1, hb'.2.2, if_neg (by decide)] at spec1
  have B2 := B1.mono e2
  have e12 := e1.trans e2
  have ll : (g.ds.map fun d => V.ref d.a).length = s.dogs.length := by rw [List.length_map, B.dn]
  refine q_refuse e12 (ev_I0 (ev_len (ev_dogs T B2 (ev_var rfl)) (sq_of B2.ld)) ev_c) (ev_neg ev_c) (fun hb => hE _ ?_) (fun hb H3 e3 => ?_)
  · rw [ll, decide_eq_true_eq] at hb
    rw [spec1, if_pos (by omega)]
  rw [ll, decide_eq_false_iff_not] at hb
  have spec2 := spec1
  rw [if_neg (by omega)] at spec2
  have B3 := B2.mono e3
  have e13 := e12.trans e3
  obtain ⟨xi, hx, hxn, _, _⟩ := within_nat (lo := 0) (hi := 1) hb'.1
  obtain ⟨bi, hbi, hbn, _, _⟩ := within_nat (lo := 0) (hi := 100000) hb'.2.1
  subst hx hbi
  have wkb : decide (wk = 1) = (wk == 1) := by
    by_cases h : wk = 1 <;> simp [h]
  have g60 := G.d60
  refine q_appN (P := isDogNew c (s.dogs.length : Nat) (xi : Nat) (bi : Nat) (wk == 1)) B3.ld (ev_dogs T B3 (ev_var rfl)) (ev_mkDog (ea_cons (ev_is (ev_len (ev_dogs T B3 (ev_var rfl)) (sq_of B3.ld)) (by rw [ll])) (ea_cons (ev_var rfl) (ea_cons (ev_var rfl) (ea_cons (ev_is (ev_eqI (i := wk) (j := 1) (ev_var rfl) ev_c) (by rw [wkb])) ea_nil))))) (by rw [ll]; omega)
    fun p H4 H5 hp e4 e5 hP => ?_
  obtain ⟨dx, aw, haw, hne, h1, h2⟩ := hP
  have e14 := e13.trans e4
  have e15 := e14.trans e5
  have hp0 : H p = none := fresh_back e14 hp
  have haw0 : H aw = none := fresh_back e14 haw
  have B' := B.addDog G (Nat.le_of_lt hn) (d := ⟨xi, bi, wk == 1⟩) e15 hp0 haw0 h2 h1
  refine s_retL (el_lst (vs := [.int (s.dogs.length : Nat)]) (ea_cons (ev_is (ev_I0 (ev_len (ev_dogs (g := { g with ds := g.ds ++ [⟨p, aw, []⟩] }) T B' (ev_var rfl)) (sq_of B'.ld)) ev_c) ?_) ea_nil) (by show 1 ≤ 100000; decide)) fun r H6 hr e6 h6 => ?_
  · refine congrArg V.int ?_
    rw [List.length_map, B'.dn, List.length_append, List.length_singleton]
    omega
  · refine hQ _ _ _ spec2 r H6 { g with ds := g.ds ++ [⟨p, aw, []⟩] } rfl (B'.mono e6) ⟨fun a o ha na => ?_, fun a ha => ?_⟩ ?_ h6
    · refine e6 _ _ ?_
      rw [upd_ne (fun z => na (by unfold GBook.foot; rw [z]; simp))]
      exact e15 _ _ ha
    · have hft : ({ g with ds := g.ds ++ [⟨p, aw, []⟩] } : GBook).foot = g.foot ++ [aw] := by
        unfold GBook.foot
        rw [List.map_append]
        simp
      rw [hft] at ha
      rcases List.mem_append.mp ha with ha | ha
      · exact .inl ha
      · have e : a = aw := by simpa using ha
        exact .inr (by rw [e]; exact haw0)
    · cases h : H r with
      | none => rfl
      | some o =>
        by_cases z : r = g.ld
        · rw [z, upd_same] at hr
          cases hr
        · rw [upd_ne z, e15 _ _ h] at hr
          cases hr

/-! ### a new show -/
theorem BookAt.begin (B : BookAt c H n s g) (hs : s.show_ = none) {Hx : Hp} (ex : Ex H Hx) {p dx db le dg dr lg : Addr} {d j k : Nat} {w : Bool} (hb : H g.b = some (.ins c.C_Book db (bookF g.ld (shV g.sh) (s.last : Nat))))
    (a1 : H le = none) (a2 : H dg = none) (a3 : H dr = none) (a4 : H lg = none) (nd : [le, dg, dr, lg].Nodup) (h1 : Hx le = some (.lst [])) (h2 : Hx dg = some (.dK [])) (h3 : Hx dr = some (.dT [])) (h4 : Hx lg = some (.lst []))
    (h5 : Hx p = some (.ins c.C_Show dx (showF ⟨d, j, k, w, [], [], []⟩ le dg dr lg))) :
    BookAt c (upd Hx g.b (.ins c.C_Book db (bookF g.ld (.ref p) (d : Nat)))) (n + 1) { s with show_ := some ⟨d, j, k, w, [], [], []⟩, last := d } { g with sh := some ⟨p, le, dg, dr, lg, [], [], [], []⟩ } := by
  obtain ⟨f1, f2, f3, f4, f5⟩ := foot_parts B
  have hbx := ex _ _ hb
  have g0 : g.sh = none := B.no hs
  have nel : ∀ {a : Addr} {o : HO}, Hx a = some o → (∀ fs, o ≠ .ins c.C_Book db fs) → upd Hx g.b (.ins c.C_Book db (bookF g.ld (.ref p) (d : Nat))) a = some o := fun {a o} h ho => by
    rw [upd_ne (ne_of h hbx (ho _))]
    exact h
  have hft : ({ g with sh := some ⟨p, le, dg, dr, lg, [], [], [], []⟩ } : GBook).foot = g.b :: g.ld :: ([le, dg, dr, lg] ++ g.ds.map GDog.aw) := rfl
  have nf : ∀ a ∈ [le, dg, dr, lg], a ∉ g.foot := fun a ha => B.new_foot (by
    simp only [List.mem_cons, List.not_mem_nil, or_false] at ha
    rcases ha with rfl | rfl | rfl | rfl <;> assumption)
  have pnb : ∀ {fs : List (Str × V)}, HO.ins c.C_Show dx (showF ⟨d, j, k, w, [], [], []⟩ le dg dr lg) ≠ .ins c.C_Book db fs → True := fun _ => trivial
  refine ⟨⟨db, upd_same⟩, nel (ex _ _ B.ld) fun fs z => (nomatch z), B.dn, fun i d' x h1' h2' => ?_, (fun z => nomatch z), fun w' hw' => ?_, ?_, fun x hx q hq => ?_⟩
  · have dd := (B.ds i d' x h1' h2').mono ex
    obtain ⟨⟨dy, b1⟩, b2, b3, b4⟩ := dd
    refine ⟨⟨dy, ?_⟩, nel b2 fun fs z => (nomatch z), fun q hq => ?_, b4⟩
    · rw [upd_ne (ne_of b1 hbx (fun z => ?_))]
      · exact b1
      · injection z with z1 z2 z3
        exact absurd (congrArg List.length z3) (by show ¬ (5 : Nat) = 3; decide)
    · obtain ⟨dz, b5⟩ := b3 q hq
      refine ⟨dz, ?_⟩
      rw [upd_ne (ne_of b5 hbx (fun z => ?_))]
      · exact b5
      · injection z with z1 z2 z3
        exact absurd (congrArg List.length z3) (by show ¬ (4 : Nat) = 3; decide)
  · cases hw'
    refine ⟨_, rfl, ⟨⟨dx, ?_⟩, nel h1 fun fs z => (nomatch z), (fun q hq => nomatch hq), rfl, nel h2 fun fs z => (nomatch z), fun i => rfl, Nat.zero_le _, nel h3 fun fs z => (nomatch z), (fun q hq => nomatch hq), rfl, nel h4 fun fs z => (nomatch z), (fun q hq => nomatch hq), rfl⟩⟩
    show upd Hx g.b _ p = _
    rw [upd_ne (ne_of h5 hbx (fun z => ?_))]
    · exact h5
    · injection z with z1 z2 z3
      exact absurd (congrArg List.length z3) (by show ¬ (8 : Nat) = 3; decide)
  · rw [hft, List.nodup_cons, List.nodup_cons, List.nodup_append]
    rw [g0] at f1 f2
    refine ⟨fun z => ?_, fun z => ?_, nd, f4, fun a ha b hb' z => ?_⟩
    · rcases List.mem_cons.mp z with z | z
      · exact f1 (by rw [z]; simp)
      · rcases List.mem_append.mp z with z | z
        · exact nf _ z (by unfold GBook.foot; simp)
        · exact f1 (List.mem_cons_of_mem _ z)
    · rcases List.mem_append.mp z with z | z
      · exact nf _ z (by unfold GBook.foot; simp)
      · exact f2 z
    · exact nf a ha (by unfold GBook.foot; rw [z]; exact List.mem_cons_of_mem _ (List.mem_cons_of_mem _ (List.mem_append_right _ hb')))
  · cases hx
    exact nomatch hq
theorem pure_Book_begin_show (T : Txt K mg c) (vs : List V) (H : Hp) (Q : VK) (E : XK) (h : sp_Book_begin_show K c vs H Q E) : t_Book_begin_show K c E { nx := fun _ H' => Q .non H', rt := Q } (start N_Book_begin_show vs) H := by
  obtain ⟨l, d, j, k, wk, hS, n, s, g, args, call, rfl, ⟨rfl, rfl⟩, B, G, hn, hE, hQ⟩ := h
  obtain ⟨db, hbk⟩ := B.ins
  unfold t_Book_begin_show
  refine q_unl4 (ev_var rfl) hS fun H1 e1 => ?_
  have spec0 : Kg73.spec s (.show_ d j k wk) = if (Kg73.within d 0 200000 && (Kg73.within j 0 100 && (Kg73.within k 0 50 && Kg73.within wk 0 1))) = false then (s, Kg73.num (-1))
    else if s.show_.isSome = true then (s, Kg73.num (-3))
    else if d < (s.last : Int) then (s, Kg73.num (-4))
    else ({ s with show_ := some ⟨d.toNat, j.toNat, k.toNat, wk == 1, [], [], []⟩, last := d.toNat }, Kg73.num 0) := rfl
  refine q_asg (ev_orV (ev_out (z := d) (ev_var rfl)) fun _ => ev_orV (ev_out (z := j) (ev_var rfl)) fun _ => ev_out (z := k) (ev_var rfl)) fun H2 e2 => ?_
  have e12 := e1.trans e2
  refine q_refuse e12 (ev_orV (ev_var rfl) fun _ => ev_sex (z := wk) (ev_var rfl)) (ev_neg ev_c) (fun hb => hE _ ?_) (fun hb H3 e3 => ?_)
  · rw [spec0, if_pos]
    revert hb
    cases Kg73.within d 0 200000 <;> cases Kg73.within j 0 100 <;> cases Kg73.within k 0 50 <;> cases Kg73.within wk 0 1 <;> simp
  have hb' : Kg73.within d 0 200000 = true ∧ Kg73.within j 0 100 = true ∧ Kg73.within k 0 50 = true ∧ Kg73.within wk 0 1 = true := by
    revert hb
    cases Kg73.within d 0 200000 <;> cases Kg73.within j 0 100 <;> cases Kg73.within k 0 50 <;> cases Kg73.within wk 0 1 <;> simp
  have spec1 := spec0
  rw [hb'.1, hb'.2.1, hb'.2.2.1, hb'.2.2.2, if_neg (by decide)] at spec1
  have e13 := e12.trans e3
  have sv : (!decide (shV g.sh = .non)) = s.show_.isSome := by
    cases hs : s.show_ with
    | none => rw [B.no hs]; rfl
    | some w =>
      obtain ⟨x, hx, _⟩ := B.on w hs
      rw [hx]
      rfl
  refine q_refuse e13 (ev_notN (ev_fld (ev_var rfl) (e13 _ _ hbk) T.cl_Book T.n_Book_show (lk_Book_show _ _ _))) (ev_neg ev_c) (fun hb => hE _ ?_) (fun hb H4 e4 => ?_)
  · rw [sv] at hb
    rw [spec1, if_pos hb]
  rw [sv] at hb
  have spec2 := spec1
  rw [hb, if_neg (by decide)] at spec2
  have hs : s.show_ = none := by
    cases h : s.show_ with
    | none => rfl
    | some w => rw [h] at hb; cases hb
  have e14 := e13.trans e4
  refine q_refuse e14 (ev_I0 (i := d) (j := (s.last : Nat)) (ev_var rfl) (ev_fld (ev_var rfl) (e14 _ _ hbk) T.cl_Book T.n_Book_last_day (lk_Book_last_day _ _ _))) (ev_neg ev_c) (fun hb => hE _ ?_) (fun hb H5 e5 => ?_)
  · rw [spec2, if_pos (of_decide_eq_true hb)]
  have spec3 := spec2
  rw [if_neg (of_decide_eq_false hb)] at spec3
  have e15 := e14.trans e5
  obtain ⟨di, hd, hdn, _, _⟩ := within_nat (lo := 0) (hi := 200000) hb'.1
  obtain ⟨ji, hj, hjn, _, _⟩ := within_nat (lo := 0) (hi := 100) hb'.2.1
  obtain ⟨ki, hk, hkn, _, _⟩ := within_nat (lo := 0) (hi := 50) hb'.2.2.1
  subst hd hj hk
  have wkb : decide (wk = 1) = (wk == 1) := by
    by_cases h : wk = 1 <;> simp [h]
  refine q_fldN (P := isShowNew c (di : Nat) (ji : Nat) (ki : Nat) (wk == 1)) (ev_mkShow (ea_cons (ev_var rfl) (ea_cons (ev_var rfl) (ea_cons (ev_var rfl) (ea_cons (ev_is (ev_eqI (i := wk) (j := 1) (ev_var rfl) ev_c) (by rw [wkb])) ea_nil))))) (ev_var rfl) (e15 _ _ hbk) T.cl_Book T.n_Book_show (by show 3 < 1000; decide)
    fun p H6 H7 hp e6 hP e7 => ?_
  obtain ⟨dx, le, dg, dr, lg, n1, n2, n3, n4, nd, hpn, h1, h2, h3, h4, h5⟩ := hP
  have e17 := (e15.trans e6).trans e7
  rw [put_show]
  refine q_fld (ev_var rfl) (ev_var rfl) upd_same T.cl_Book T.n_Book_last_day (by show 3 < 1000; decide) fun H8 e8 => ?_
  rw [put_last]
  -- the heap behind both stores, told as one store
  have fin : ∀ H9, Ex (upd H8 g.b (.ins c.C_Book db (bookF g.ld (.ref p) (di : Nat)))) H9 → Ex (upd H7 g.b (.ins c.C_Book db (bookF g.ld (.ref p) (di : Nat)))) H9 := fun H9 e9 a o ha => by
    by_cases z : a = g.b
    · rw [z, upd_same] at ha
      rw [z]
      exact e9 _ _ (by rw [upd_same]; exact ha)
    · rw [upd_ne z] at ha
      refine e9 _ _ ?_
      rw [upd_ne z]
      exact e8 _ _ (by rw [upd_ne z]; exact ha)
  have B' := B.begin (w := wk == 1) hs e17 hbk (fresh_back e15 n1) (fresh_back e15 n2) (fresh_back e15 n3) (fresh_back e15 n4) nd (e7 _ _ h1) (e7 _ _ h2) (e7 _ _ h3) (e7 _ _ h4) (e7 _ _ h5)
  refine s_retL (el_lst (vs := [.int 0]) (ea_cons ev_c ea_nil) (by show 1 ≤ 100000; decide)) fun r H9 hr e9 h9 => ?_
  have e79 := fin H9 e9
  refine hQ _ _ _ spec3 r H9 { g with sh := some ⟨p, le, dg, dr, lg, [], [], [], []⟩ } rfl (B'.mono e79) ⟨fun a o ha na => ?_, fun a ha => ?_⟩ ?_ h9
  · refine e79 _ _ ?_
    rw [upd_ne (fun z => na (by unfold GBook.foot; rw [z]; simp))]
    exact e17 _ _ ha
  · have ha' : a ∈ g.b :: g.ld :: ([le, dg, dr, lg] ++ g.ds.map GDog.aw) := ha
    rcases List.mem_cons.mp ha' with z | ha'
    · exact .inl (by unfold GBook.foot; rw [z]; simp)
    rcases List.mem_cons.mp ha' with z | ha'
    · exact .inl (by unfold GBook.foot; rw [z]; simp)
    rcases List.mem_append.mp ha' with ha' | ha'
    · simp only [List.mem_cons, List.not_mem_nil, or_false] at ha'
      rcases ha' with rfl | rfl | rfl | rfl
      · exact .inr (fresh_back e15 n1)
      · exact .inr (fresh_back e15 n2)
      · exact .inr (fresh_back e15 n3)
      · exact .inr (fresh_back e15 n4)
    · exact .inl (by unfold GBook.foot; exact List.mem_cons_of_mem _ (List.mem_cons_of_mem _ (List.mem_append_right _ ha')))
  · cases h : H r with
    | none => rfl
    | some o =>
      by_cases z : r = g.b
      · rw [z, upd_same] at hr
        cases hr
      · rw [upd_ne z] at hr
        have : upd H7 g.b (.ins c.C_Book db (bookF g.ld (.ref p) (s.last : Nat))) r = some o := by
          rw [upd_ne z]
          exact e17 _ _ h
        rw [e8 _ _ this] at hr
        cases hr
end
end Ds

/-! A show is closed. -/
namespace Ds
open PySem PySem.Spec PyProof.Rows L2 Evl
theorem map_set_same {α β : Type} {f : α → β} : ∀ {l : List α} {j : Nat} {x y : α}, l[j]? = some y → f x = f y → (l.set j x).map f = l.map f
  | [], j, x, y, h, _ => by simp at h
  | a :: l, 0, x, y, h, e => by
    have : a = y := by simpa using h
    rw [List.set_cons_zero, List.map_cons, List.map_cons, e, this]
  | a :: l, j + 1, x, y, h, e => by
    have h' : l[j]? = some y := by simpa using h
    rw [List.set_cons_succ, List.map_cons, List.map_cons, map_set_same h' e]
theorem nodup_at {α : Type} {l : List α} (hN : l.Nodup) {i j : Nat} {x : α} (a : l[i]? = some x) (b : l[j]? = some x) : i = j := by
  obtain ⟨h1, e1⟩ := List.getElem?_eq_some_iff.mp a
  obtain ⟨h2, e2⟩ := List.getElem?_eq_some_iff.mp b
  exact (List.getElem_inj hN).mp (e1.trans e2.symm)
theorem closed_dog {s : Kg73.State} {w : Kg73.Show} (g : GoodW s w) {a : Kg73.Award} (ha : a ∈ s.closed w) : a.dog < s.dogs.length ∧ a.day = w.day ∧ a.judge = w.judge ∧ a.country = w.country := by
  rw [closed_eq] at ha
  rcases List.mem_append.mp ha with ha | ha
  · obtain ⟨sx, _, ha⟩ := List.mem_flatMap.mp ha
    unfold ownOf at ha
    rcases List.mem_append.mp ha with ha | ha
    · obtain ⟨i, hi, rfl⟩ := List.mem_map.mp ha
      exact ⟨(row_entry g (placed_mem hi)).1, rfl, rfl, rfl⟩
    · obtain ⟨i, hi, rfl⟩ := List.mem_map.mp ha
      exact ⟨(row_entry g (placed_mem hi)).1, rfl, rfl, rfl⟩
  · obtain ⟨b, hb, rfl⟩ := List.mem_map.mp ha
    exact g.aDog b hb
theorem closed_len {s : Kg73.State} {w : Kg73.Show} : (s.closed w).length ≤ 4 + w.awards.length := by
  rw [closed_eq, List.length_append, List.length_map]
  have o0 := own_len w 0
  have o1 := own_len w 1
  have : (([0, 1] : List Nat).flatMap (ownOf w)).length = (ownOf w 0).length + (ownOf w 1).length := by simp
  omega
section
variable {K : PySem.W.Frag} {mg : Str → Option Value} {c : Cs} {vs : List V} {H H0 : Hp} {Q : VK} {E : XK} {σ : L2.St} {D : Ends} {tz : TS} {te tn ta tb : TE}
variable {n : Nat} {s : Kg73.State} {g : GBook}
theorem BookAt.no_tup (B : BookAt c H n s g) {a : Addr} {xs : List V} (h : H a = some (.tup xs)) : a ∉ g.foot := fun ha => by
  unfold GBook.foot at ha
  rcases List.mem_cons.mp ha with rfl | ha
  · obtain ⟨dx, h'⟩ := B.ins
    rw [h] at h'; cases h'
  rcases List.mem_cons.mp ha with rfl | ha
  · have h' := B.ld
    rw [h] at h'; cases h'
  rcases List.mem_append.mp ha with ha | ha
  · cases hs : s.show_ with
    | none => rw [B.no hs] at ha; exact nomatch ha
    | some w =>
      obtain ⟨x, hx, sa⟩ := B.on w hs
      rw [hx] at ha
      exact sa.hard h rfl ha
  · obtain ⟨d, hd, rfl⟩ := List.mem_map.mp ha
    obtain ⟨i, hi⟩ := List.mem_iff_getElem?.mp hd
    have hl : i < s.dogs.length := by rw [← B.dn]; exact (List.getElem?_eq_some_iff.mp hi).1
    have h' := (B.ds i _ d (List.getElem?_eq_getElem hl) hi).aws
    rw [h] at h'; cases h'
/-- a dog is given an award that is kept -/
theorem BookAt.give (B : BookAt c H n s g) {j : Nat} {gd : GDog} (hg : g.ds[j]? = some gd) {a : Kg73.Award} (ha : a.dog = j) {Hx : Hp} {p dx : Addr} (ex : Ex H Hx) (hp : Hx p = some (.ins c.C_Award dx (awF a))) :
    BookAt c (upd Hx gd.aw (.lst ((gd.ks.map fun p => V.ref p.1) ++ [.ref p]))) n { s with kept := s.kept ++ [a] } { g with ds := g.ds.set j { gd with ks := gd.ks ++ [(p, a)] } } ∧
      ({ g with ds := g.ds.set j { gd with ks := gd.ks ++ [(p, a)] } } : GBook).foot = g.foot ∧ (∀ i, ({ g with ds := g.ds.set j { gd with ks := gd.ks ++ [(p, a)] } } : GBook).at i = g.at i) := by
  obtain ⟨f1, f2, f3, f4, f5⟩ := foot_parts B
  have hjl : j < s.dogs.length := by rw [← B.dn]; exact (List.getElem?_eq_some_iff.mp hg).1
  have gj := (B.ds j _ gd (List.getElem?_eq_getElem hjl) hg).mono ex
  have haw := gj.aws
  have nel : ∀ {b : Addr} {o : HO}, Hx b = some o → (∀ xs, o ≠ .lst xs) → upd Hx gd.aw (.lst ((gd.ks.map fun p => V.ref p.1) ++ [.ref p])) b = some o := fun {b o} h ho => by
    rw [upd_ne (ne_of h haw (ho _))]
    exact h
  have mem : gd.aw ∈ g.ds.map GDog.aw := List.mem_map.mpr ⟨gd, List.mem_of_getElem? hg, rfl⟩
  have memf : gd.aw ∈ g.foot := by unfold GBook.foot; exact List.mem_cons_of_mem _ (List.mem_cons_of_mem _ (List.mem_append_right _ mem))
  have mA : (g.ds.set j { gd with ks := gd.ks ++ [(p, a)] }).map GDog.a = g.ds.map GDog.a := map_set_same hg rfl
  have mW : (g.ds.set j { gd with ks := gd.ks ++ [(p, a)] }).map GDog.aw = g.ds.map GDog.aw := map_set_same hg rfl
  have mR : (g.ds.set j { gd with ks := gd.ks ++ [(p, a)] }).map (fun d => V.ref d.a) = g.ds.map fun d => V.ref d.a := map_set_same (f := fun d : GDog => V.ref d.a) hg rfl
  have hft : ({ g with ds := g.ds.set j { gd with ks := gd.ks ++ [(p, a)] } } : GBook).foot = g.foot := by
    unfold GBook.foot
    show g.b :: g.ld :: (shFoot g.sh ++ (g.ds.set j _).map GDog.aw) = _
    rw [mW]
  have hat : ∀ i, ({ g with ds := g.ds.set j { gd with ks := gd.ks ++ [(p, a)] } } : GBook).at i = g.at i := fun i => by
    unfold GBook.at
    show ((g.ds.set j _).map GDog.a).getD i 0 = _
    rw [mA]
  refine ⟨⟨?_, ?_, ?_, fun i d x hd hx => ?_, B.no, fun w hw => ?_, ?_, fun x hx q hq => ?_⟩, hft, hat⟩
  · obtain ⟨db, h⟩ := B.ins
    exact ⟨db, nel (ex _ _ h) fun xs z => nomatch z⟩
  · show upd Hx gd.aw _ g.ld = some (.lst ((g.ds.set j _).map _))
    rw [mR, upd_ne (fun z : g.ld = gd.aw => f2 (List.mem_append_right _ (by rw [z]; exact mem)))]
    exact ex _ _ B.ld
  · show (g.ds.set j _).length = _
    rw [List.length_set]
    exact B.dn
  · have kj : keptOf (s.kept ++ [a]) i = keptOf s.kept i ++ (if i = j then [a] else []) := by
      unfold keptOf
      rw [List.filter_append]
      by_cases z : i = j
      · rw [if_pos z, z]
        simp [ha]
      · rw [if_neg z]
        have : ¬ a.dog = i := fun y => z (y.symm.trans ha)
        simp [this]
    show DogAt c _ i d (keptOf (s.kept ++ [a]) i) x
    rw [kj]
    by_cases z : i = j
    · subst z
      have hx' : (g.ds.set i { gd with ks := gd.ks ++ [(p, a)] })[i]? = some x := hx
      rw [List.getElem?_set_self (List.getElem?_eq_some_iff.mp hg).1] at hx'
      have e := Option.some.inj hx'
      subst e
      rw [List.getElem?_eq_getElem hjl] at hd
      have e2 := Option.some.inj hd
      subst e2
      rw [if_pos rfl]
      obtain ⟨⟨dy, a1⟩, a2, a3, a4⟩ := gj
      refine ⟨⟨dy, nel a1 fun xs z => nomatch z⟩, ?_, fun q hq => ?_, ?_⟩
      · show upd Hx gd.aw _ gd.aw = _
        rw [upd_same, List.map_append]
        rfl
      · rcases List.mem_append.mp hq with hq | hq
        · obtain ⟨dz, a5⟩ := a3 q hq
          exact ⟨dz, nel a5 fun xs z => nomatch z⟩
        · have e : q = (p, a) := by simpa using hq
          subst e
          exact ⟨dx, nel hp fun xs z => nomatch z⟩
      · show (gd.ks ++ [(p, a)]).map (·.2) = _
        rw [List.map_append, a4]
        rfl
    · have hx' : (g.ds.set j { gd with ks := gd.ks ++ [(p, a)] })[i]? = some x := hx
      rw [List.getElem?_set_ne (Ne.symm z)] at hx'
      rw [if_neg z, List.append_nil]
      obtain ⟨⟨dy, a1⟩, a2, a3, a4⟩ := (B.ds i d x hd hx').mono ex
      refine ⟨⟨dy, nel a1 fun xs z => nomatch z⟩, ?_, fun q hq => ?_, a4⟩
      · rw [upd_ne (fun y => z ?_)]
        · exact a2
        · refine nodup_at f4 (i := i) (j := j) (x := gd.aw) ?_ ?_
          · rw [List.getElem?_map, hx', ← y]
            rfl
          · rw [List.getElem?_map, hg]
            rfl
      · obtain ⟨dz, a5⟩ := a3 q hq
        exact ⟨dz, nel a5 fun xs z => nomatch z⟩
  · obtain ⟨x, hx, sa⟩ := B.on w hw
    refine ⟨x, hx, ?_⟩
    have e : ({ g with ds := g.ds.set j { gd with ks := gd.ks ++ [(p, a)] } } : GBook).at = g.at := funext hat
    rw [e]
    exact (sa.mono ex).other haw (fun z => f5 _ (by rw [hx]; exact z) _ mem rfl) fun q hq z => B.rr x hx q hq (z ▸ memf)
  · rw [hft]
    exact B.nd
  · rw [hft]
    exact B.rr x hx q hq
theorem BookAt.closed (B : BookAt c H n s g) {Hx : Hp} {db : Addr} (ex : Ex H Hx) (hb : Hx g.b = some (.ins c.C_Book db (bookF g.ld (shV g.sh) (s.last : Nat)))) :
    BookAt c (upd Hx g.b (.ins c.C_Book db (bookF g.ld .non (s.last : Nat)))) n { s with show_ := none } { g with sh := none } := by
  obtain ⟨f1, f2, f3, f4, f5⟩ := foot_parts B
  have nel : ∀ {a : Addr} {o : HO}, Hx a = some o → (∀ fs, o ≠ .ins c.C_Book db fs) → upd Hx g.b (.ins c.C_Book db (bookF g.ld .non (s.last : Nat))) a = some o := fun {a o} h ho => by
    rw [upd_ne (ne_of h hb (ho _))]
    exact h
  refine ⟨⟨db, upd_same⟩, nel (ex _ _ B.ld) fun fs z => (nomatch z), B.dn, fun i d' x h1' h2' => ?_, fun _ => rfl, (fun w hw => nomatch hw), ?_, (fun x hx => nomatch hx)⟩
  · obtain ⟨⟨dy, b1⟩, b2, b3, b4⟩ := (B.ds i d' x h1' h2').mono ex
    refine ⟨⟨dy, ?_⟩, nel b2 fun fs z => (nomatch z), fun q hq => ?_, b4⟩
    · rw [upd_ne (ne_of b1 hb (fun z => ?_))]
      · exact b1
      · injection z with z1 z2 z3
        exact absurd (congrArg List.length z3) (by show ¬ (5 : Nat) = 3; decide)
    · obtain ⟨dz, b5⟩ := b3 q hq
      refine ⟨dz, ?_⟩
      rw [upd_ne (ne_of b5 hb (fun z => ?_))]
      · exact b5
      · injection z with z1 z2 z3
        exact absurd (congrArg List.length z3) (by show ¬ (4 : Nat) = 3; decide)
  · show (g.b :: g.ld :: ([] ++ g.ds.map GDog.aw)).Nodup
    rw [List.nil_append, List.nodup_cons, List.nodup_cons]
    refine ⟨fun z => ?_, fun z => f2 (List.mem_append_right _ z), f4⟩
    rcases List.mem_cons.mp z with z | z
    · exact f1 (by rw [z]; simp)
    · exact f1 (List.mem_cons_of_mem _ (List.mem_append_right _ z))
theorem q_kept {w : Kg73.Show} {x : GShow} {i : Nat} (v : Vw c H n s g w x) (ha : Ev ta σ H (.ref x.a)) (k : ∀ p H1 (l : List (Addr × Kg73.Award)), H p = none → Ex H H1 → l.map (·.2) = s.closed w → H1 p = some (.lst (l.map fun q => V.ref q.1)) → (∀ q ∈ l, H1 q.1 = some (.tup [.ref (g.at q.2.dog), .int (q.2.kind : Nat)])) → tz D (σ.set i (some (.ref p))) H1) :
    tSeq (tAsg (tMeth c.C_Show "kept_awards" (sp_Show_kept_awards K c) [] E0 ta tNil) (gName i)) tz D σ H := by
  obtain ⟨dx, hs⟩ := v.sa.ins
  exact ha H (Ex.refl H) _ fun H1 e1 => ⟨x.a, dx, _, rfl, e1 _ _ hs, nk_Show_kept_awards _ _ _ _ _, n, s, g, w, x, v.mono e1, rfl, fun p H2 l hp e2 hl h2 ht => k p H2 l (fresh_back e1 hp) (e1.trans e2) hl h2 ht⟩
theorem ev_mkAward {tr : TA} {a : Kg73.Award} (hv : EvA tr σ H [.int (a.kind : Nat), .int (a.day : Nat), .int (a.judge : Nat), .int (a.country : Nat)]) : EvN (tMake c.C_Award (sp_Award_init K c) [] E0 tr) σ H (fun _ p H2 => ∃ dx, H2 p = some (.ins c.C_Award dx (awF a))) := fun H1 e Q q => hv H1 e _ fun H2 e2 => by
  intro p dx np nd ne
  refine ⟨p, dx, _, _, _, _, rfl, upd_same, ⟨rfl, ?_⟩⟩
  refine q p _ (fresh_back e2 np) (made_ex (C := c.C_Award) e2 np nd fun r o hr hne => ?_) ⟨dx, upd_same⟩
  rw [upd_ne hne]
  exact hr
theorem s_appN {l : Addr} {xs : List V} {P : Hp → Addr → Hp → Prop} (hl : H l = some (.lst xs)) (ha : Ev ta σ H (.ref l)) (h : EvN te σ H P) (hz : xs.length < 100000)
    (k : ∀ p H1 H2, H1 p = none → Ex H H1 → Ex H1 H2 → P H1 p H2 → D.nx σ (upd H2 l (.lst (xs ++ [.ref p])))) : tDrop (tBM K "list" rAppend ta (tCons te tNil)) D σ H := ha H (Ex.refl H) _ fun H1 e1 =>
  ⟨Or.inl ⟨rfl, xs, sq_of (e1 l _ hl)⟩, h H1 e1 _ fun p H2 hp e2 hP => ⟨l, xs, .ref p, rfl, rfl, e2 l _ (e1 l _ hl), sz_lt hz, k p H1 H2 hp e1 e2 hP⟩⟩
theorem pure_Book_close_show (T : Txt K mg c) (vs : List V) (H : Hp) (Q : VK) (E : XK) (h : sp_Book_close_show K c vs H Q E) : t_Book_close_show K c E { nx := fun _ H' => Q .non H', rt := Q } (start N_Book_close_show vs) H := by
  obtain ⟨n, s, g, args, call, rfl, ⟨rfl, rfl⟩, B, G, hn, hE, hQ⟩ := h
  unfold t_Book_close_show
  refine q_on (Ex.refl H) B (ev_var rfl) (fun hs => hE _ (on_none hs)) (fun w x hw hx sa0 H1 e1 => ?_)
  have v : Vw c H1 n s g w x := ⟨B.mono e1, G, Nat.le_of_lt hn, hw, hx, sa0.mono e1⟩
  have gw := v.gw
  have sm := v.small
  have hsp : Kg73.spec s .close = ({ s with show_ := none, kept := s.kept ++ s.closed w }, ⟨((s.closed w).length : Nat), Kg73.whole ((s.closed w).flatMap fun a => [a.dog, a.kind])⟩) := on_some hw
  refine q_kept v (ev_var rfl) fun p H2 l hp e2 hl h2 ht => ?_
  have e12 := e1.trans e2
  have p0 : H p = none := fresh_back e1 hp
  have cl := closed_len (s := s) (w := w)
  have ll : l.length = (s.closed w).length := by rw [← hl, List.length_map]
  have lmem : ∀ q ∈ l, q.2 ∈ s.closed w := fun q hq => by rw [← hl]; exact List.mem_map.mpr ⟨q, hq, rfl⟩
  refine q_asgL (el_lst (vs := [.int ((s.closed w).length : Nat)]) (ea_cons (ev_is (ev_len (ev_var rfl) (sq_of h2)) (by rw [List.length_map, ll])) ea_nil) (by show 1 ≤ 100000; decide)) fun lo H3 hlo e3 h3 => ?_
  have e13 := e12.trans e3
  have lo0 : H lo = none := fresh_back e12 hlo
  have h2' := e3 _ _ h2
  have plo : p ≠ lo := ne_of_none h2 hlo
  refine q_forM (l := l) (val := fun q => V.ref q.1) (ev_var rfl) (sq_of h2')
    (fun k σ' H' => (∃ a b, σ' = [some (.ref g.b), some (.ref x.a), some (.ref p), some (.ref lo), a, b]) ∧ Ex H H' ∧ H' p = some (.lst (l.map fun q => V.ref q.1)) ∧ (∀ q ∈ l, H' q.1 = some (.tup [.ref (g.at q.2.dog), .int (q.2.kind : Nat)])) ∧
      H' lo = some (.lst (.int ((s.closed w).length : Nat) :: ((l.take k).flatMap fun q => [V.int (q.2.dog : Nat), V.int (q.2.kind : Nat)]))))
    (fun H4 e4 => ⟨⟨_, _, rfl⟩, e13.trans e4, e4 _ _ h2', fun q hq => e4 _ _ (e3 _ _ (ht q hq)), e4 _ _ h3⟩) (fun k σ' H' pv => sq_of pv.2.2.1) (fun k q σ' H' hk pv => ?_) (fun σ' H' pv => ?_)
  · obtain ⟨⟨a, b, rfl⟩, ex, hp', ht', hlo'⟩ := pv
    have hq : q ∈ l := List.mem_of_getElem? hk
    refine g_pair (ht' q hq) ?_
    have vx : Vw c H' n s g w x := ⟨B.mono ex, G, Nat.le_of_lt hn, hw, hx, sa0.mono ex⟩
    obtain ⟨dd, wd, hd⟩ := vx.dog (closed_dog gw (lmem q hq)).1
    have len : ((l.take k).flatMap fun q => [V.int (q.2.dog : Nat), V.int (q.2.kind : Nat)]).length ≤ 2 * l.length := by
      have q1 : ∀ r : List (Addr × Kg73.Award), (r.flatMap fun q => [V.int (q.2.dog : Nat), V.int (q.2.kind : Nat)]).length = 2 * r.length := fun r => by
        induction r with
        | nil => rfl
        | cons a r ih => rw [List.flatMap_cons, List.length_append, ih, List.length_cons]; simp; omega
      rw [q1, List.length_take]
      omega
    refine s_ext (zs := [.int (q.2.dog : Nat), .int (q.2.kind : Nat)]) hlo' (ev_var rfl) (el_lst (ea_cons (ev_fld (ev_var rfl) hd T.cl_Dog T.n_Dog_number (lk_Dog_number _ _ _)) (ea_cons (ev_var rfl) ea_nil)) (by show 2 ≤ 100000; decide)) (by
        rw [List.length_cons]
        show _ + 1 + 2 ≤ _
        omega) fun H5 e5 => ⟨⟨_, _, rfl⟩, (ex.trans e5).mut lo0, ?_, fun r hr => ?_, ?_⟩
    · rw [upd_ne plo]
      exact e5 _ _ hp'
    · rw [upd_ne (ne_of (ht' r hr) hlo' (fun z => nomatch z))]
      exact e5 _ _ (ht' r hr)
    · rw [upd_same, take_snoc hk, List.flatMap_append]
      simp
  · obtain ⟨⟨a, b, rfl⟩, ex, hp', ht', hlo'⟩ := pv
    rw [List.take_length] at hlo'
    have B5 := (B.mono ex).more (Nat.le_succ n)
    have nlo : lo ∉ g.foot := B.new_foot lo0
    have npp : p ∉ g.foot := B.new_foot p0
    have ntp : ∀ q ∈ l, q.1 ∉ g.foot := fun q hq => B5.no_tup (ht' q hq)
    obtain ⟨dxs, hs5⟩ := (sa0.mono ex).ins
    have nxa : x.a ∉ g.foot := fun z => by
      unfold GBook.foot at z
      rcases List.mem_cons.mp z with z | z
      · obtain ⟨db, hb⟩ := B5.ins
        rw [z, hb] at hs5
        have := Option.some.inj hs5
        injection this with _ _ z3
        exact absurd (congrArg List.length z3) (by show ¬ (3 : Nat) = 8; decide)
      rcases List.mem_cons.mp z with z | z
      · rw [z, B5.ld] at hs5
        cases hs5
      rcases List.mem_append.mp z with z | z
      · rw [hx] at z
        exact (sa0.mono ex).hard hs5 rfl z
      · obtain ⟨d, hd, e⟩ := List.mem_map.mp z
        obtain ⟨i, hi⟩ := List.mem_iff_getElem?.mp hd
        have hl : i < s.dogs.length := by rw [← B.dn]; exact (List.getElem?_eq_some_iff.mp hi).1
        have h' := (B5.ds i _ d (List.getElem?_eq_getElem hl) hi).aws
        rw [e, hs5] at h'
        cases h'
    refine q_forM (l := l) (val := fun q => V.ref q.1) (ev_var rfl) (sq_of hp')
      (fun k σ' H'' => (∃ a b, σ' = [some (.ref g.b), some (.ref x.a), some (.ref p), some (.ref lo), a, b]) ∧ (∀ a o, H' a = some o → a ∉ g.foot → H'' a = some o) ∧
        ∃ gm : GBook, BookAt c H'' (n + 1) { s with kept := s.kept ++ (l.take k).map (·.2) } gm ∧ gm.foot = g.foot ∧ gm.b = g.b ∧ gm.ld = g.ld ∧ gm.sh = g.sh ∧ ∀ i, gm.at i = g.at i)
      (fun H6 e6 => ⟨⟨_, _, rfl⟩, fun a o h _ => e6 _ _ h, g, by
        have e : ({ s with kept := s.kept ++ (l.take 0).map (·.2) } : Kg73.State) = s := by simp
        rw [e]
        exact B5.mono e6, rfl, rfl, rfl, rfl, fun _ => rfl⟩) (fun k σ' H'' pv => sq_of (pv.2.1 _ _ hp' npp)) (fun k q σ' H'' hk pv => ?_) (fun σ' H'' pv => ?_)
    · obtain ⟨⟨a, b, rfl⟩, kp, gm, Bm, hfm, hbm, hlm, hsm, hatm⟩ := pv
      have hq : q ∈ l := List.mem_of_getElem? hk
      refine g_pair (kp _ _ (ht' q hq) (ntp q hq)) ?_
      have cd := closed_dog gw (lmem q hq)
      obtain ⟨gd, hgd, egd, Dg⟩ := Bm.dog (i := q.2.dog) cd.1
      obtain ⟨dd, hd⟩ := Dg.ins
      have eg2 : g.at q.2.dog = gd.a := by rw [← hatm, egd]
      have hxs := kp _ _ hs5 nxa
      have lenk : gd.ks.length ≤ 4000 := by
        have q1 : gd.ks.length = (keptOf (s.kept ++ (l.take k).map (·.2)) q.2.dog).length := by rw [← Dg.same, List.length_map]
        have q2 := List.length_filter_le (fun a : Kg73.Award => a.dog == q.2.dog) (s.kept ++ (l.take k).map (·.2))
        have q3 : (keptOf (s.kept ++ (l.take k).map (·.2)) q.2.dog).length ≤ (s.kept ++ (l.take k).map (·.2)).length := q2
        rw [List.length_append, List.length_map, List.length_take] at q3
        have := G.kept
        omega
      refine s_appN (xs := gd.ks.map fun p => V.ref p.1) (P := fun _ p H2 => ∃ dx, H2 p = some (.ins c.C_Award dx (awF q.2))) Dg.aws (ev_fld (a := gd.a) (ev_is (ev_var rfl) (by rw [eg2])) hd T.cl_Dog T.n_Dog_awards (lk_Dog_awards _ _ _))
        (ev_mkAward (a := q.2) (ea_cons (ev_var rfl) (ea_cons (ev_is (ev_fld (ev_var rfl) hxs T.cl_Show T.n_Show_day (lk_Show_day _ _ _ _ _)) (by rw [cd.2.1])) (ea_cons (ev_is (ev_fld (ev_var rfl) hxs T.cl_Show T.n_Show_judge (lk_Show_judge _ _ _ _ _)) (by rw [cd.2.2.1])) (ea_cons (ev_is (ev_fld (ev_var rfl) hxs T.cl_Show T.n_Show_country (lk_Show_country _ _ _ _ _)) (by rw [cd.2.2.2])) ea_nil))))) (by rw [List.length_map]; omega)
        fun t H7 H8 _ e7 e8 hP => ?_
      obtain ⟨dt, ht8⟩ := hP
      obtain ⟨B8, f8, at8⟩ := Bm.give hgd (a := q.2) rfl (e7.trans e8) ht8
      have awf : gd.aw ∈ g.foot := by
        rw [← hfm]
        unfold GBook.foot
        exact List.mem_cons_of_mem _ (List.mem_cons_of_mem _ (List.mem_append_right _ (List.mem_map.mpr ⟨gd, List.mem_of_getElem? hgd, rfl⟩)))
      refine ⟨⟨_, _, rfl⟩, fun a o h na => ?_, { gm with ds := gm.ds.set q.2.dog { gd with ks := gd.ks ++ [(t, q.2)] } }, ?_, f8.trans hfm, hbm, hlm, hsm, fun i => (at8 i).trans (hatm i)⟩
      · rw [upd_ne (fun z : a = gd.aw => na (by rw [z]; exact awf))]
        exact e8 _ _ (e7 _ _ (kp _ _ h na))
      · rw [take_snoc hk, List.map_append, ← List.append_assoc]
        exact B8
    · obtain ⟨⟨a, b, rfl⟩, kp, gm, Bm, hfm, hbm, hlm, hsm, hatm⟩ := pv
      rw [List.take_length, hl] at Bm
      obtain ⟨db, hb⟩ := Bm.ins
      have hb' : H'' g.b = some (.ins c.C_Book db (bookF gm.ld (shV gm.sh) (s.last : Nat))) := by rw [← hbm]; exact hb
      refine q_fld (v := .non) ev_c (ev_var rfl) hb' T.cl_Book T.n_Book_show (by show 3 < 1000; decide) fun H7 e7 => ?_
      rw [put_show]
      have hb7 : H7 gm.b = some (.ins c.C_Book db (bookF gm.ld (shV gm.sh) (s.last : Nat))) := e7 _ _ hb
      have B7 := Bm.closed e7 hb7
      refine s_ret (ev_var rfl) fun H8 e8 => hQ _ _ _ hsp lo H8 { gm with sh := none } hbm (B7.mono (by rw [hbm]; exact e8)) ⟨fun a o h na => ?_, fun a ha => .inl ?_⟩ lo0 ?_
      · refine e8 _ _ ?_
        rw [upd_ne (fun z => na (by unfold GBook.foot; rw [z]; simp))]
        exact e7 _ _ (kp _ _ (ex _ _ h) na)
      · rw [← hfm]
        have ha' : a ∈ gm.b :: gm.ld :: ([] ++ gm.ds.map GDog.aw) := ha
        unfold GBook.foot
        rcases List.mem_cons.mp ha' with z | z
        · rw [z]; simp
        · rcases List.mem_cons.mp z with z | z
          · rw [z]; simp
          · exact List.mem_cons_of_mem _ (List.mem_cons_of_mem _ (List.mem_append_right _ z))
      · have lob : lo ≠ g.b := fun z => nlo (by unfold GBook.foot; rw [z]; simp)
        rw [e8 lo (.lst (.int ((s.closed w).length : Nat) :: (l.flatMap fun q => [V.int (q.2.dog : Nat), V.int (q.2.kind : Nat)]))) (by rw [upd_ne lob]; exact e7 _ _ (kp _ _ hlo' nlo))]
        refine congrArg (fun q => some (HO.lst (_ :: q))) ?_
        rw [← hl]
        unfold Kg73.whole
        rw [List.map_flatMap, List.map_flatMap, List.flatMap_map]
        rfl
end
end Ds

/-! Every state that is come to is good; how the calls are read off the list. Plain mathematics. -/
namespace Ds
open Kg73 (State Show Entry Row Award)
theorem Good.more {s : State} {n m : Nat} (G : Good s n) (h : n ≤ m) : Good s m :=
  ⟨G.d60, G.sex, G.sh, by have := G.kept; omega, G.kd, fun w hw => by obtain ⟨a, b, c⟩ := G.len w hw; omega⟩
theorem Good.put {s : State} {n : Nat} (G : Good s n) {w w' : Show} (hw : s.show_ = some w) (gw : GoodW s w') (l1 : w'.entries.length ≤ n + 1) (l2 : w'.rows.length ≤ n + 1) (l3 : w'.awards.length ≤ w.awards.length + 1) :
    Good { s with show_ := some w' } (n + 1) := by
  have k := G.kept
  obtain ⟨a, b, c⟩ := G.len w hw
  have e : awN s = w.awards.length := by unfold awN; rw [hw]
  refine ⟨G.d60, G.sex, fun w2 h2 => ?_, ?_, G.kd, fun w2 h2 => ?_⟩
  · cases h2
    exact ⟨gw.eDog, gw.eNd, gw.eGr, gw.rDog, gw.aDog, gw.aOne, gw.aFive, gw.aWide, gw.aBest, gw.aCert⟩
  · show s.kept.length + w'.awards.length ≤ 5 * (n + 1)
    omega
  · cases h2
    omega
theorem holder_more {s s' : State} {w : Show} (h : ∀ a ∈ w.awards, s'.dog a.dog = s.dog a.dog) (k x : Nat) : w.holder s' k x = w.holder s k x := by
  unfold Kg73.Show.holder
  refine congrArg (Option.map _) ?_
  have go : ∀ l : List Award, (∀ a ∈ l, s'.dog a.dog = s.dog a.dog) → l.find? (fun a => a.kind == k && (s'.dog a.dog).sex == x) = l.find? (fun a => a.kind == k && (s.dog a.dog).sex == x) := by
    intro l
    induction l with
    | nil => intro _; rfl
    | cons a l ih =>
      intro hl
      rw [List.find?_cons, List.find?_cons, hl a List.mem_cons_self, ih fun b hb => hl b (List.mem_cons_of_mem _ hb)]
  exact go _ h
theorem good_dog {s : State} {n : Nat} (G : Good s n) (d : Kg73.Dog) (hd : d.sex ≤ 1) (hl : s.dogs.length < 60) : Good { s with dogs := s.dogs ++ [d] } (n + 1) := by
  have old : ∀ i, i < s.dogs.length → ({ s with dogs := s.dogs ++ [d] } : State).dog i = s.dog i := fun i hi => by
    unfold Kg73.State.dog
    rw [List.getD_eq_getElem?_getD, List.getD_eq_getElem?_getD, List.getElem?_append_left hi]
  have len : ({ s with dogs := s.dogs ++ [d] } : State).dogs.length = s.dogs.length + 1 := by
    show (s.dogs ++ [d]).length = _
    rw [List.length_append, List.length_singleton]
  refine ⟨by rw [len]; omega, fun e he => ?_, fun w hw => ?_, ?_, fun a ha => by rw [len]; have := G.kd a ha; omega, fun w hw => by obtain ⟨a, b, c⟩ := G.len w hw; omega⟩
  · rcases List.mem_append.mp he with he | he
    · exact G.sex e he
    · have q : e = d := by simpa using he
      rw [q]
      exact hd
  · have g := G.sh w hw
    have oa : ∀ a ∈ w.awards, ({ s with dogs := s.dogs ++ [d] } : State).dog a.dog = s.dog a.dog := fun a ha => old _ (g.aDog a ha).1
    refine ⟨fun e he => by rw [len]; have := g.eDog e he; omega, g.eNd, g.eGr, fun r hr i hi => ?_, fun a ha => ?_, fun a ha hk => ?_, fun a ha hk => ?_, g.aWide, g.aBest, g.aCert⟩
    · obtain ⟨a, b⟩ := g.rDog r hr i hi
      exact ⟨by rw [len]; omega, b⟩
    · obtain ⟨a, b⟩ := g.aDog a ha
      exact ⟨by rw [len]; omega, b⟩
    · rw [holder_more oa, oa a ha]
      exact g.aOne a ha hk
    · rw [holder_more oa, oa a ha]
      exact g.aFive a ha hk
  · have := G.kept
    show s.kept.length + awN s ≤ _
    omega
theorem holder_award {s : State} {w : Show} (i k kind sx : Nat) : (w.award i k).holder s kind sx = (w.holder s kind sx).or (if k = kind ∧ (s.dog i).sex = sx then some i else none) := by
  unfold Kg73.Show.award Kg73.Show.holder
  rw [List.find?_append, List.find?_cons]
  by_cases h : k = kind ∧ (s.dog i).sex = sx
  · have hb : (k == kind && (s.dog i).sex == sx) = true := by simp [h.1, h.2]
    rw [if_pos h]
    show ((w.awards.find? _).or (match (k == kind && (s.dog i).sex == sx) with | true => _ | false => _)).map _ = _
    rw [hb]
    cases w.awards.find? (fun a => a.kind == kind && (s.dog a.dog).sex == sx) <;> rfl
  · have hb : (k == kind && (s.dog i).sex == sx) = false := by
      by_cases h1 : k = kind
      · have h2 : ¬ (s.dog i).sex = sx := fun z => h ⟨h1, z⟩
        simp [h2]
      · simp [h1]
    rw [if_neg h]
    show ((w.awards.find? _).or (match (k == kind && (s.dog i).sex == sx) with | true => _ | false => _)).map _ = _
    rw [hb]
    cases w.awards.find? (fun a => a.kind == kind && (s.dog a.dog).sex == sx) <;> rfl
theorem good_award {s : State} {n : Nat} (G : Good s n) {w : Show} (hw : s.show_ = some w) {i k : Nat} (hi : i < s.dogs.length) (hc : (w.may s k (s.dog i).sex).contains i = true) : Good { s with show_ := some (w.award i k) } (n + 1) := by
  have g := G.sh w hw
  obtain ⟨a1, b1, c1⟩ := G.len w hw
  have hm : i ∈ w.may s k (s.dog i).sex := by simpa using hc
  have hsx := dog_sex G.sex i
  have up : ∀ kind sx, (w.holder s kind sx).isSome = true → ((w.award i k).holder s kind sx).isSome = true := fun kind sx h => by
    rw [holder_award]
    cases e : w.holder s kind sx with
    | none => rw [e] at h; cases h
    | some j => rfl
  have nx : (k = 1 ∨ k = 5) → (w.holder s (k - 1) (s.dog i).sex).isSome = true := fun hk => by
    rw [may_next hk] at hm
    cases e : w.holder s (k - 1) (s.dog i).sex with
    | none => rw [e] at hm; simp at hm
    | some j => rfl
  have mem : ∀ a ∈ (w.award i k).awards, a ∈ w.awards ∨ a = ⟨i, k, w.day, w.judge, w.country⟩ := fun a ha => by
    have ha' : a ∈ w.awards ++ [⟨i, k, w.day, w.judge, w.country⟩] := ha
    rcases List.mem_append.mp ha' with h | h
    · exact .inl h
    · exact .inr (by simpa using h)
  refine G.put hw ⟨g.eDog, g.eNd, g.eGr, g.rDog, fun a ha => ?_, fun a ha hk => ?_, fun a ha hk => ?_, fun hf a ha hk => ?_, fun a ha b hb hka hkb => ?_, fun a ha hk => ?_⟩ (by show w.entries.length ≤ _; omega) (by show w.rows.length ≤ _; omega) (by
      show (w.awards ++ [_]).length ≤ _
      rw [List.length_append, List.length_singleton]
      exact Nat.le_refl _)
  · rcases mem a ha with h | h
    · exact g.aDog a h
    · subst h
      exact ⟨hi, rfl, rfl, rfl⟩
  · rcases mem a ha with h | h
    · exact up _ _ (g.aOne a h hk)
    · subst h
      have hk' : k = 1 := hk
      subst hk'
      exact up _ _ (nx (.inl rfl))
  · rcases mem a ha with h | h
    · exact up _ _ (g.aFive a h hk)
    · subst h
      have hk' : k = 5 := hk
      subst hk'
      exact up _ _ (nx (.inr rfl))
  · rcases mem a ha with h | h
    · exact g.aWide hf a h hk
    · subst h
      have hk' : k = 4 := hk
      rw [may_wide g (.inl hk') hf] at hm
      cases hm
  · have six : k = 6 → ∀ e ∈ w.awards, e.kind = 6 → False := fun hk e he hke => by
      rw [hk, may_best g, if_pos (List.any_eq_true.mpr ⟨e, he, by simp [hke]⟩)] at hm
      cases hm
    rcases mem a ha with h | h
    · rcases mem b hb with h2 | h2
      · exact g.aBest a h b h2 hka hkb
      · subst h2
        exact (six hkb a h hka).elim
    · rcases mem b hb with h2 | h2
      · subst h
        exact (six hka b h2 hkb).elim
      · rw [h, h2]
  · rcases mem a ha with h | h
    · exact g.aCert a h hk
    · subst h
      have hk' : k = 0 ∨ k = 4 := hk
      rw [may_cert hk' (fun z => by
        cases hf : w.wide with
        | true => rfl
        | false =>
          rw [may_wide g (.inl z) hf] at hm
          cases hm)] at hm
      split at hm
      · cases hm
      · exact (firsts_entry g hm).2
theorem good_enter {s : State} {n : Nat} (G : Good s n) {w : Show} (hw : s.show_ = some w) {i k : Nat} (hi : i < s.dogs.length) (hn : w.entry i = none) (hr : w.rows = []) : Good { s with show_ := some { w with entries := w.entries ++ [⟨i, k, 0⟩] } } (n + 1) := by
  have g := G.sh w hw
  obtain ⟨a1, b1, c1⟩ := G.len w hw
  refine G.put hw ⟨fun e he => ?_, ?_, fun e he => ?_, fun r hr' => ?_, g.aDog, g.aOne, g.aFive, g.aWide, g.aBest, fun a ha hk => ?_⟩ (by
      show (w.entries ++ [_]).length ≤ _
      rw [List.length_append, List.length_singleton]
      omega) (by show w.rows.length ≤ _; omega) (Nat.le_succ _)
  · rcases List.mem_append.mp he with he | he
    · exact g.eDog e he
    · have q : e = ⟨i, k, 0⟩ := by simpa using he
      rw [q]
      exact hi
  · rw [List.map_append, List.nodup_append]
    refine ⟨g.eNd, by simp, fun a ha b hb z => ?_⟩
    have q : b = i := by simpa using hb
    rw [z, q] at ha
    obtain ⟨e, he, hei⟩ := List.mem_map.mp ha
    have := List.find?_eq_none.mp hn e he
    simp [hei] at this
  · rcases List.mem_append.mp he with he | he
    · exact g.eGr e he
    · have q : e = ⟨i, k, 0⟩ := by simpa using he
      rw [q]
      exact Nat.zero_le _
  · have hr2 : r ∈ w.rows := hr'
    rw [hr] at hr2
    cases hr2
  · obtain ⟨e, he, h2⟩ := g.aCert a ha hk
    refine ⟨e, ?_, h2⟩
    rw [entry_app, he]
    rfl
theorem good_grade {s : State} {n : Nat} (G : Good s n) {w : Show} (hw : s.show_ = some w) {i k : Nat} (hk : k ≤ 3) (hr : w.rows = []) : Good { s with show_ := some { w with entries := w.entries.map fun e => if e.dog = i then { e with grade := k } else e } } (n + 1) := by
  have g := G.sh w hw
  obtain ⟨a1, b1, c1⟩ := G.len w hw
  have sd : ∀ e : Entry, (if e.dog = i then { e with grade := k } else e).dog = e.dog := fun e => by split <;> rfl
  refine G.put hw ⟨fun e he => ?_, ?_, fun e he => ?_, fun r hr' => ?_, g.aDog, g.aOne, g.aFive, g.aWide, g.aBest, fun a ha hk => ?_⟩ (by
      show (w.entries.map _).length ≤ _
      rw [List.length_map]
      omega) (by show w.rows.length ≤ _; omega) (Nat.le_succ _)
  · obtain ⟨e', he', q⟩ := List.mem_map.mp he
    rw [← q, sd]
    exact g.eDog e' he'
  · show ((w.entries.map _).map _).Nodup
    rw [List.map_map]
    have q : (w.entries.map (Entry.dog ∘ fun e => if e.dog = i then { e with grade := k } else e)) = w.entries.map Entry.dog := List.map_congr_left fun e _ => sd e
    rw [q]
    exact g.eNd
  · obtain ⟨e', he', q⟩ := List.mem_map.mp he
    rw [← q]
    split
    · exact hk
    · exact g.eGr e' he'
  · have hr2 : r ∈ w.rows := hr'
    rw [hr] at hr2
    cases hr2
  · obtain ⟨e, he, h2, h3⟩ := g.aCert a ha hk
    refine ⟨if e.dog = i then { e with grade := k } else e, ?_, ?_⟩
    · rw [entry_graded, he]
      rfl
    · split
      · exact ⟨h2, h3⟩
      · exact ⟨h2, h3⟩
theorem good_row {s : State} {n : Nat} (G : Good s n) {w : Show} (hw : s.show_ = some w) {k sx : Nat} {r : List Nat} (hl : ∀ i ∈ r, i < s.dogs.length) (hp : r.all (rowP s w k sx) = true) : Good { s with show_ := some { w with rows := w.rows ++ [⟨k, sx, r⟩] } } (n + 1) := by
  have g := G.sh w hw
  obtain ⟨a1, b1, c1⟩ := G.len w hw
  refine G.put hw ⟨g.eDog, g.eNd, g.eGr, fun q hq i hi => ?_, g.aDog, g.aOne, g.aFive, g.aWide, g.aBest, g.aCert⟩ (by show w.entries.length ≤ _; omega) (by
      show (w.rows ++ [_]).length ≤ _
      rw [List.length_append, List.length_singleton]
      omega) (Nat.le_succ _)
  rcases List.mem_append.mp hq with hq | hq
  · exact g.rDog q hq i hi
  · have e : q = ⟨k, sx, r⟩ := by simpa using hq
    subst e
    refine ⟨hl i hi, ?_⟩
    have p := List.all_eq_true.mp hp i hi
    unfold rowP at p
    rw [Bool.and_eq_true] at p
    cases he : w.entry i with
    | none => rw [he] at p; cases p.2
    | some en =>
      rw [he] at p
      have p2 : (en.class_ == k && decide (2 ≤ en.grade)) = true := p.2
      rw [Bool.and_eq_true, beq_iff_eq] at p2
      exact ⟨en, he, p2.1⟩
theorem good_step {s : State} {n : Nat} (G : Good s n) (q : Kg73.Call) : Good (Kg73.spec s q).1 (n + 1) := by
  have stay : Good s (n + 1) := G.more (Nat.le_succ n)
  have on : ∀ f : Show → State × Kg73.Ans, (∀ w, s.show_ = some w → Good (f w).1 (n + 1)) → Good (Kg73.onShow s f).1 (n + 1) := fun f h => by
    cases hs : s.show_ with
    | none => rw [on_none hs]; exact stay
    | some w => rw [on_some hs]; exact h w hs
  cases q with
  | begin_ => exact Good.init _
  | dog x b w =>
    show Good (if _ then (s, _) else if _ then (s, _) else _ : State × Kg73.Ans).1 _
    split
    · exact stay
    · rename_i h
      split
      · exact stay
      · have hb : Kg73.within x 0 1 = true := by
          cases hx : Kg73.within x 0 1 with
          | true => rfl
          | false => rw [hx] at h; exact absurd rfl h
        obtain ⟨xi, hx, hxn, _, h1⟩ := within_nat (lo := 0) (hi := 1) hb
        exact good_dog G _ (by show x.toNat ≤ 1; omega) (by omega)
  | show_ d j k w =>
    show Good (if _ then (s, _) else if _ then (s, _) else if _ then (s, _) else _ : State × Kg73.Ans).1 _
    split
    · exact stay
    · split
      · exact stay
      · rename_i hs
        split
        · exact stay
        · have hn : s.show_ = none := by
            cases h : s.show_ with
            | none => rfl
            | some w => rw [h] at hs; exact absurd rfl hs
          have k := G.kept
          refine ⟨G.d60, G.sex, fun w' hw' => ?_, ?_, G.kd, fun w' hw' => ?_⟩
          · cases hw'
            exact ⟨fun e he => (nomatch he), List.nodup_nil, fun e he => (nomatch he), fun r hr => (nomatch hr), fun a ha => (nomatch ha), fun a ha => (nomatch ha), fun a ha => (nomatch ha), fun _ a ha => (nomatch ha), fun a ha => (nomatch ha), fun a ha => (nomatch ha)⟩
          · show s.kept.length + 0 ≤ _
            omega
          · cases hw'
            exact ⟨Nat.zero_le _, Nat.zero_le _, Nat.zero_le _⟩
  | enter i k =>
    show Good (if _ then (s, _) else _ : State × Kg73.Ans).1 _
    split
    · exact stay
    · rename_i h
      refine on _ fun w hw => ?_
      have hd : Kg73.isDog s i = true := by
        cases hx : Kg73.isDog s i with
        | true => rfl
        | false => rw [hx] at h; exact absurd rfl h
      obtain ⟨j, hj, hjn, hl⟩ := isDog_nat hd
      subst hj
      show Good (if _ then (s, _) else if _ then (s, _) else if _ then (s, _) else _ : State × Kg73.Ans).1 _
      split
      · exact stay
      · rename_i h5
        split
        · exact stay
        · split
          · exact stay
          · refine good_enter G hw hl ?_ ?_
            · cases e : w.entry j with
              | none => exact e
              | some en => exact absurd (.inl (by show (w.entry j).isSome = true; rw [e]; rfl)) h5
            · by_cases z : w.rows = []
              · exact z
              · exact absurd (.inr z) h5
  | grade i k =>
    show Good (if _ then (s, _) else _ : State × Kg73.Ans).1 _
    split
    · exact stay
    · rename_i h
      refine on _ fun w hw => ?_
      have hd : Kg73.isDog s i = true ∧ Kg73.within k 1 3 = true := by
        cases hx : Kg73.isDog s i with
        | true => cases hy : Kg73.within k 1 3 with
          | true => exact ⟨rfl, rfl⟩
          | false => rw [hx, hy] at h; exact absurd rfl h
        | false => rw [hx] at h; exact absurd rfl h
      obtain ⟨j, hj, hjn, hl⟩ := isDog_nat hd.1
      obtain ⟨m, hm, hmn, _, h3⟩ := within_nat (lo := 1) (hi := 3) hd.2
      subst hj hm
      show Good (if _ then (s, _) else if _ then (s, _) else _ : State × Kg73.Ans).1 _
      split
      · exact stay
      · split
        · exact stay
        · rename_i h5
          refine good_grade G hw h3 ?_
          by_cases z : w.rows = []
          · exact z
          · exact absurd z h5
  | row k x l =>
    show Good (if _ then (s, _) else _ : State × Kg73.Ans).1 _
    split
    · exact stay
    · rename_i h
      refine on _ fun w hw => ?_
      have hd : Kg73.within k 0 6 = true ∧ Kg73.within x 0 1 = true ∧ l.all (Kg73.isDog s) = true := by
        revert h
        cases Kg73.within k 0 6 <;> cases Kg73.within x 0 1 <;> cases l.all (Kg73.isDog s) <;> simp
      obtain ⟨kk, hk, hkn, _, _⟩ := within_nat (lo := 0) (hi := 6) hd.1
      obtain ⟨xx, hx, hxn, _, _⟩ := within_nat (lo := 0) (hi := 1) hd.2.1
      subst hk hx
      show Good (if _ then (s, _) else if _ then (s, _) else _ : State × Kg73.Ans).1 _
      split
      · exact stay
      · rename_i h4
        split
        · exact stay
        · refine good_row G hw (fun i hi => ?_) ?_
          · obtain ⟨q, hq, rfl⟩ := List.mem_map.mp hi
            obtain ⟨j, _, h2, h3⟩ := isDog_nat (List.all_eq_true.mp hd.2.2 q hq)
            omega
          · cases e : (l.map Int.toNat).all (rowP s w kk xx) with
            | true => exact e
            | false => exact absurd (.inl e) h4
  | award i k =>
    show Good (if _ then (s, _) else _ : State × Kg73.Ans).1 _
    split
    · exact stay
    · rename_i h
      refine on _ fun w hw => ?_
      have hd : Kg73.isDog s i = true := by
        cases hx : Kg73.isDog s i with
        | true => rfl
        | false => rw [hx] at h; exact absurd rfl h
      obtain ⟨j, hj, hjn, hl⟩ := isDog_nat hd
      subst hj
      show Good (if _ then (s, _) else _ : State × Kg73.Ans).1 _
      split
      · exact stay
      · rename_i h4
        refine good_award G hw hl ?_
        cases e : (w.may s k.toNat (s.dog j).sex).contains j with
        | true => exact e
        | false => exact absurd e h4
  | close =>
    refine on _ fun w hw => ?_
    have k := G.kept
    have e : awN s = w.awards.length := by unfold awN; rw [hw]
    have cl := closed_len (s := s) (w := w)
    refine ⟨G.d60, G.sex, (fun w' hw' => nomatch hw'), ?_, fun a ha => ?_, (fun w' hw' => nomatch hw')⟩
    · show (s.kept ++ s.closed w).length + 0 ≤ _
      rw [List.length_append]
      omega
    · rcases List.mem_append.mp ha with ha | ha
      · exact G.kd a ha
      · exact (closed_dog (G.sh w hw) ha).1
  | may k x =>
    show Good (if _ then (s, _) else _ : State × Kg73.Ans).1 _
    split
    · exact stay
    · exact on _ fun w hw => stay
  | titles i =>
    show Good (if _ then (s, _) else _ : State × Kg73.Ans).1 _
    split
    · exact stay
    · exact stay
  | kept i =>
    show Good (if _ then (s, _) else _ : State × Kg73.Ans).1 _
    split
    · exact stay
    · exact stay
  | now => exact on _ fun w hw => stay
end Ds

/-! One call is read, one call is answered. -/
namespace Ds
open PySem PySem.Spec PyProof.Rows L2 Evl
section
variable {K : PySem.W.Frag} {mg : Str → Option Value} {c : Cs} {vs : List V} {H H0 : Hp} {Q : VK} {E : XK} {σ : L2.St} {D : Ends} {tz tu : TS} {te tn ta tb : TE}
variable {n : Nat} {s : Kg73.State} {g : GBook}
theorem sp_call.mono {k : List V → Kg73.Call → Prop} {vs : List V} (h : sp_call c k vs H Q E) {H1 : Hp} (e : Ex H H1) : sp_call c k vs H1 Q E := by
  obtain ⟨n, s, g, args, call, rfl, hk, B, G, hn, hE, hQ⟩ := h
  exact ⟨n, s, g, args, call, rfl, hk, B.mono e, G, hn, fun v hv => (hE v hv).mono e, fun s' v out hs p H' g' hb B' kp hp h' => hQ s' v out hs p H' g' hb B' ⟨fun a o ha na => kp.keep a o (e a o ha) na, fun a ha => (kp.new a ha).imp id fun z => fresh_back e z⟩ (fresh_back e hp) h'⟩
theorem sp_call.imp {k k' : List V → Kg73.Call → Prop} {vs vs' : List V} {b : Addr} {args' : List V} (h : sp_call c k vs H Q E) (hv : vs' = .ref b :: args') (hb : ∀ g : GBook, ∀ args, vs = .ref g.b :: args → g.b = b) (hk : ∀ args q, k args q → k' args' q) : sp_call c k' vs' H Q E := by
  obtain ⟨n, s, g, args, call, rfl, hk0, B, G, hn, hE, hQ⟩ := h
  have := hb g args rfl
  subst this
  exact ⟨n, s, g, args', call, hv, hk args call hk0, B, G, hn, hE, hQ⟩
/-- o.m(..) of the book as a return -/
theorem s_retC {m : Str} {sp : Sp} {tr : TA} {b dx : Addr} {fs : List (Str × V)} (ha : Ev ta σ H (.ref b)) (ho : H b = some (.ins c.C_Book dx fs)) (hl : fs.lookup m = none) (hv : EvA tr σ H vs) (h : ∀ H1, Ex H H1 → sp (.ref b :: vs) H1 D.rt E) :
    tRet (tMeth c.C_Book m sp [] E ta tr) D σ H := ha H (Ex.refl H) _ fun H1 e1 => ⟨b, dx, fs, rfl, e1 _ _ ho, hl, hv H1 e1 _ fun H2 e2 => by
  rw [List.append_nil]
  exact h H2 (e1.trans e2)⟩
theorem q_skip {no k : Int} (hn : no ≠ k) (ha : Ev ta σ H (.int no)) (h : ∀ H1, Ex H H1 → tz D σ H1) : tSeq (tIfS (tTest (tOp rEq ta (tC (.int k)))) tu tNext) tz D σ H :=
  q_when (et_test (ev_eqI ha ev_c)) (fun hb => absurd (of_decide_eq_true hb) hn) fun _ H1 e1 => h H1 e1
theorem q_take {no k : Int} (hn : no = k) (ha : Ev ta σ H (.int no)) (h : ∀ H1, Ex H H1 → tu { D with nx := tz D } σ H1) : tSeq (tIfS (tTest (tOp rEq ta (tC (.int k)))) tu tNext) tz D σ H :=
  q_when (et_test (ev_eqI ha ev_c)) (fun _ H1 e1 => h H1 e1) fun hb => absurd hn (of_decide_eq_false hb)
theorem ev_at {a : Addr} {ns : List Int} {j : Nat} {x : Int} (ha : Ev ta σ H (.ref a)) (hS : SqL K H a (ns.map V.int)) (hb : Ev tb σ H (.int (j : Nat))) (hx : ns[j]? = some x) : Ev (tOp (rIxL K) ta tb) σ H (.int x) :=
  ev_op ha hb (rv_ixL hS (atI_nat (by rw [List.getElem?_map, hx]; rfl)))
theorem pure_answer (T : Txt K mg c) (vs : List V) (H : Hp) (Q : VK) (E : XK) (h : sp_answer K c vs H Q E) : t_answer K c E { nx := fun _ H' => Q .non H', rt := Q } (start N_answer vs) H := by
  obtain ⟨no, a, r, ns, row, hA, hR, n, s, g, args, call, rfl, ⟨rfl, hc⟩, B, G, hn, hE, hQ⟩ := h
  obtain ⟨dx, hb⟩ := B.ins
  have go : ∀ {k : List V → Kg73.Call → Prop} {args : List V}, k args call → ∀ {H1 : Hp}, Ex H H1 → sp_call c k (.ref g.b :: args) H1 Q E := fun {k args} hk {H1} e => sp_call.mono ⟨n, s, g, args, call, rfl, hk, B, G, hn, hE, hQ⟩ e
  unfold t_answer
  cases call with
  | begin_ => exact hc.elim
  | dog x b w =>
    obtain ⟨rfl, rfl⟩ := hc
    refine q_take rfl (ev_var rfl) fun H1 e1 => ?_
    exact s_retC (ev_var rfl) (e1 _ _ hb) (nk_Book_add_dog _ _ _) (ea_cons (ev_var rfl) ea_nil) fun H2 e2 => ⟨a, x, b, w, ex_l (e1.trans e2) hA, go ⟨rfl, rfl⟩ (e1.trans e2)⟩
  | show_ d j k w =>
    obtain ⟨rfl, rfl⟩ := hc
    refine q_skip (by decide) (ev_var rfl) fun H1 e1 => q_take rfl (ev_var rfl) fun H2 e2 => ?_
    have e := e1.trans e2
    exact s_retC (ev_var rfl) (e _ _ hb) (nk_Book_begin_show _ _ _) (ea_cons (ev_var rfl) ea_nil) fun H3 e3 => ⟨a, d, j, k, w, ex_l (e.trans e3) hA, go ⟨rfl, rfl⟩ (e.trans e3)⟩
  | enter i k =>
    obtain ⟨rfl, rfl⟩ := hc
    refine q_skip (by decide) (ev_var rfl) fun H1 e1 => q_skip (by decide) (ev_var rfl) fun H2 e2 => q_take rfl (ev_var rfl) fun H3 e3 => ?_
    have e := (e1.trans e2).trans e3
    exact s_retC (ev_var rfl) (e _ _ hb) (nk_Book_enter _ _ _) (ea_cons (ev_at (j := 0) (ev_var rfl) (ex_l e hA) ev_c rfl) (ea_cons (ev_at (j := 1) (ev_var rfl) (ex_l e hA) ev_c rfl) ea_nil)) fun H4 e4 => go ⟨i, k, rfl, rfl⟩ (e.trans e4)
  | grade i k =>
    obtain ⟨rfl, rfl⟩ := hc
    refine q_skip (by decide) (ev_var rfl) fun H1 e1 => q_skip (by decide) (ev_var rfl) fun H2 e2 => q_skip (by decide) (ev_var rfl) fun H3 e3 => q_take rfl (ev_var rfl) fun H4 e4 => ?_
    have e := ((e1.trans e2).trans e3).trans e4
    exact s_retC (ev_var rfl) (e _ _ hb) (nk_Book_grade _ _ _) (ea_cons (ev_at (j := 0) (ev_var rfl) (ex_l e hA) ev_c rfl) (ea_cons (ev_at (j := 1) (ev_var rfl) (ex_l e hA) ev_c rfl) ea_nil)) fun H5 e5 => go ⟨i, k, rfl, rfl⟩ (e.trans e5)
  | row k x l =>
    obtain ⟨rfl, rfl, rfl, h10⟩ := hc
    refine q_skip (by decide) (ev_var rfl) fun H1 e1 => q_skip (by decide) (ev_var rfl) fun H2 e2 => q_skip (by decide) (ev_var rfl) fun H3 e3 => q_skip (by decide) (ev_var rfl) fun H4 e4 => q_take rfl (ev_var rfl) fun H5 e5 => ?_
    have e := (((e1.trans e2).trans e3).trans e4).trans e5
    exact s_retC (ev_var rfl) (e _ _ hb) (nk_Book_row _ _ _) (ea_cons (ev_at (j := 0) (ev_var rfl) (ex_l e hA) ev_c rfl) (ea_cons (ev_at (j := 1) (ev_var rfl) (ex_l e hA) ev_c rfl) (ea_cons (ev_var rfl) ea_nil))) fun H6 e6 => ⟨r, k, x, row, ex_l (e.trans e6) hR, h10, go ⟨rfl, rfl⟩ (e.trans e6)⟩
  | award i k =>
    obtain ⟨rfl, rfl⟩ := hc
    refine q_skip (by decide) (ev_var rfl) fun H1 e1 => q_skip (by decide) (ev_var rfl) fun H2 e2 => q_skip (by decide) (ev_var rfl) fun H3 e3 => q_skip (by decide) (ev_var rfl) fun H4 e4 => q_skip (by decide) (ev_var rfl) fun H5 e5 => q_take rfl (ev_var rfl) fun H6 e6 => ?_
    have e := ((((e1.trans e2).trans e3).trans e4).trans e5).trans e6
    exact s_retC (ev_var rfl) (e _ _ hb) (nk_Book_award _ _ _) (ea_cons (ev_at (j := 0) (ev_var rfl) (ex_l e hA) ev_c rfl) (ea_cons (ev_at (j := 1) (ev_var rfl) (ex_l e hA) ev_c rfl) ea_nil)) fun H7 e7 => go ⟨i, k, rfl, rfl⟩ (e.trans e7)
  | close =>
    obtain rfl : no = 8 := hc
    refine q_skip (by decide) (ev_var rfl) fun H1 e1 => q_skip (by decide) (ev_var rfl) fun H2 e2 => q_skip (by decide) (ev_var rfl) fun H3 e3 => q_skip (by decide) (ev_var rfl) fun H4 e4 => q_skip (by decide) (ev_var rfl) fun H5 e5 => q_skip (by decide) (ev_var rfl) fun H6 e6 => q_take rfl (ev_var rfl) fun H7 e7 => ?_
    have e := (((((e1.trans e2).trans e3).trans e4).trans e5).trans e6).trans e7
    exact s_retC (ev_var rfl) (e _ _ hb) (nk_Book_close_show _ _ _) ea_nil fun H8 e8 => go ⟨rfl, rfl⟩ (e.trans e8)
  | may k x =>
    obtain ⟨rfl, rfl⟩ := hc
    refine q_skip (by decide) (ev_var rfl) fun H1 e1 => q_skip (by decide) (ev_var rfl) fun H2 e2 => q_skip (by decide) (ev_var rfl) fun H3 e3 => q_skip (by decide) (ev_var rfl) fun H4 e4 => q_skip (by decide) (ev_var rfl) fun H5 e5 => q_skip (by decide) (ev_var rfl) fun H6 e6 => q_skip (by decide) (ev_var rfl) fun H7 e7 => q_take rfl (ev_var rfl) fun H8 e8 => ?_
    have e := ((((((e1.trans e2).trans e3).trans e4).trans e5).trans e6).trans e7).trans e8
    exact s_retC (ev_var rfl) (e _ _ hb) (nk_Book_may _ _ _) (ea_cons (ev_at (j := 0) (ev_var rfl) (ex_l e hA) ev_c rfl) (ea_cons (ev_at (j := 1) (ev_var rfl) (ex_l e hA) ev_c rfl) ea_nil)) fun H9 e9 => go ⟨k, x, rfl, rfl⟩ (e.trans e9)
  | titles i =>
    obtain ⟨rfl, rfl⟩ := hc
    refine q_skip (by decide) (ev_var rfl) fun H1 e1 => q_skip (by decide) (ev_var rfl) fun H2 e2 => q_skip (by decide) (ev_var rfl) fun H3 e3 => q_skip (by decide) (ev_var rfl) fun H4 e4 => q_skip (by decide) (ev_var rfl) fun H5 e5 => q_skip (by decide) (ev_var rfl) fun H6 e6 => q_skip (by decide) (ev_var rfl) fun H7 e7 => q_skip (by decide) (ev_var rfl) fun H8 e8 => q_take rfl (ev_var rfl) fun H9 e9 => ?_
    have e := (((((((e1.trans e2).trans e3).trans e4).trans e5).trans e6).trans e7).trans e8).trans e9
    exact s_retC (ev_var rfl) (e _ _ hb) (nk_Book_titles _ _ _) (ea_cons (ev_at (j := 0) (ev_var rfl) (ex_l e hA) ev_c rfl) ea_nil) fun H10 e10 => go ⟨i, rfl, rfl⟩ (e.trans e10)
  | kept i =>
    obtain ⟨rfl, rfl⟩ := hc
    refine q_skip (by decide) (ev_var rfl) fun H1 e1 => q_skip (by decide) (ev_var rfl) fun H2 e2 => q_skip (by decide) (ev_var rfl) fun H3 e3 => q_skip (by decide) (ev_var rfl) fun H4 e4 => q_skip (by decide) (ev_var rfl) fun H5 e5 => q_skip (by decide) (ev_var rfl) fun H6 e6 => q_skip (by decide) (ev_var rfl) fun H7 e7 => q_skip (by decide) (ev_var rfl) fun H8 e8 => q_skip (by decide) (ev_var rfl) fun H9 e9 => q_take rfl (ev_var rfl) fun H10 e10 => ?_
    have e := ((((((((e1.trans e2).trans e3).trans e4).trans e5).trans e6).trans e7).trans e8).trans e9).trans e10
    exact s_retC (ev_var rfl) (e _ _ hb) (nk_Book_kept _ _ _) (ea_cons (ev_at (j := 0) (ev_var rfl) (ex_l e hA) ev_c rfl) ea_nil) fun H11 e11 => go ⟨i, rfl, rfl⟩ (e.trans e11)
  | now =>
    obtain rfl : no = 12 := hc
    refine q_skip (by decide) (ev_var rfl) fun H1 e1 => q_skip (by decide) (ev_var rfl) fun H2 e2 => q_skip (by decide) (ev_var rfl) fun H3 e3 => q_skip (by decide) (ev_var rfl) fun H4 e4 => q_skip (by decide) (ev_var rfl) fun H5 e5 => q_skip (by decide) (ev_var rfl) fun H6 e6 => q_skip (by decide) (ev_var rfl) fun H7 e7 => q_skip (by decide) (ev_var rfl) fun H8 e8 => q_skip (by decide) (ev_var rfl) fun H9 e9 => q_skip (by decide) (ev_var rfl) fun H10 e10 => ?_
    have e := ((((((((e1.trans e2).trans e3).trans e4).trans e5).trans e6).trans e7).trans e8).trans e9).trans e10
    exact s_retC (ev_var rfl) (e _ _ hb) (nk_Book_now _ _ _) ea_nil fun H11 e11 => go ⟨rfl, rfl⟩ (e.trans e11)

theorem q_tup2 {p : Addr} {v1 v2 : V} {i j : Nat} (h : Ev te σ H (.ref p)) (hp : SqT K H p [v1, v2]) (k : ∀ H1, Ex H H1 → tz D ((σ.set i (some v1)).set j (some v2)) H1) : tSeq (tAsg te (gTup K 2 (gCons (gName i) (gCons (gName j) gNil)))) tz D σ H :=
  h H (Ex.refl H) _ fun H1 e1 => ⟨p, _, rfl, ex_t e1 hp, rfl, _, _, rfl, _, _, rfl, rfl, k H1 e1⟩
/-! ### a call is read -/
theorem shape_forms {no : Int} {a k : Nat} (h : PyKg73.shape no = some (a, k)) : ∃ j : Nat, no - 1 = (j : Int) ∧ j < 12 ∧ ([(0, 0), (3, 0), (4, 0), (2, 0), (2, 0), (2, 1), (2, 0), (0, 0), (2, 0), (1, 0), (1, 0), (0, 0)] : List (Int × Int))[j]? = some ((a : Int), (k : Int)) := by
  unfold PyKg73.shape at h
  by_cases h1 : no = 1
  · rw [if_pos h1] at h; cases h; exact ⟨0, by omega, by omega, rfl⟩
  rw [if_neg h1] at h
  by_cases h2 : no = 2
  · rw [if_pos h2] at h; cases h; exact ⟨1, by omega, by omega, rfl⟩
  rw [if_neg h2] at h
  by_cases h3 : no = 3
  · rw [if_pos h3] at h; cases h; exact ⟨2, by omega, by omega, rfl⟩
  rw [if_neg h3] at h
  by_cases h4 : no = 4
  · rw [if_pos h4] at h; cases h; exact ⟨3, by omega, by omega, rfl⟩
  rw [if_neg h4] at h
  by_cases h5 : no = 5
  · rw [if_pos h5] at h; cases h; exact ⟨4, by omega, by omega, rfl⟩
  rw [if_neg h5] at h
  by_cases h6 : no = 6
  · rw [if_pos h6] at h; cases h; exact ⟨5, by omega, by omega, rfl⟩
  rw [if_neg h6] at h
  by_cases h7 : no = 7
  · rw [if_pos h7] at h; cases h; exact ⟨6, by omega, by omega, rfl⟩
  rw [if_neg h7] at h
  by_cases h8 : no = 8
  · rw [if_pos h8] at h; cases h; exact ⟨7, by omega, by omega, rfl⟩
  rw [if_neg h8] at h
  by_cases h9 : no = 9
  · rw [if_pos h9] at h; cases h; exact ⟨8, by omega, by omega, rfl⟩
  rw [if_neg h9] at h
  by_cases h10 : no = 10
  · rw [if_pos h10] at h; cases h; exact ⟨9, by omega, by omega, rfl⟩
  rw [if_neg h10] at h
  by_cases h11 : no = 11
  · rw [if_pos h11] at h; cases h; exact ⟨10, by omega, by omega, rfl⟩
  rw [if_neg h11] at h
  by_cases h12 : no = 12
  · rw [if_pos h12] at h; cases h; exact ⟨11, by omega, by omega, rfl⟩
  rw [if_neg h12] at h
  cases h
/-- the numbers between two places -/
theorem cut_mid (pre mid post : List Int) : cutV ((pre ++ mid ++ post).map V.int) (some ((pre.length : Nat) : Int)) (some (((pre.length + mid.length : Nat)) : Int)) = mid.map V.int := by
  unfold cutV
  rw [HT.sIx_nat, HT.sIx_nat, List.length_map, List.length_append, List.length_append, Nat.min_eq_left (by omega), Nat.min_eq_left (by omega), Nat.add_sub_cancel_left, ← List.map_drop, ← List.map_take, List.append_assoc, List.drop_left, List.take_left]
theorem el_cut {l : Addr} {ls pre mid post : List Int} {i j : Int} (ha : Ev te σ H (.ref l)) (hS : SqL K H l (ls.map V.int)) (he : ls = pre ++ mid ++ post) (hi : i = (pre.length : Nat)) (hj : j = (pre.length + mid.length : Nat)) (h1 : Ev ta σ H (.int i)) (h2 : Ev tb σ H (.int j)) :
    EvL (tSl (rSlL K) te (tPart ta) (tPart tb)) σ H (mid.map V.int) := by
  subst he hi hj
  have r := el_sl ha (eo_some h1) (eo_some h2) hS
  rw [cut_mid] at r
  exact r
theorem at_mid {ls pre post : List Int} {x : Int} (he : ls = pre ++ x :: post) : ls[pre.length]? = some x := by
  subst he
  rw [List.getElem?_append_right (Nat.le_refl _), Nat.sub_self]
  rfl
theorem pure_read_call (T : Txt K mg c) (vs : List V) (H : Hp) (Q : VK) (E : XK) (h : sp_read_call K c vs H Q E) : t_read_call K c { nx := fun _ H' => Q .non H', rt := Q } (start N_read_call vs) H := by
  obtain ⟨a, l, pre, post, no, ns, row, m, k, hS, hl6, rfl, hsh, hk, q⟩ := h
  unfold t_read_call
  obtain ⟨j, hj, hj12, hfj⟩ := shape_forms hsh
  obtain ⟨fl, hfl, hfs, hfe⟩ := T.q_FORMS
  obtain ⟨p, hp⟩ : ∃ p, fl[j]? = some p := ⟨fl[j]'(by omega), List.getElem?_eq_getElem (by omega)⟩
  have hfp : ∀ H, SqT K H p [.int (ns.length : Nat), .int (k : Nat)] := fun H => by
    obtain ⟨x, y, h1, h2⟩ := hfe H j p hp
    rw [hfj] at h1
    obtain ⟨e1, e2⟩ := Prod.mk.inj (Option.some.inj h1)
    rw [e1, e2]
    exact h2
  -- what is told of the list either way
  obtain ⟨rest, hrest⟩ : ∃ rest, l = pre ++ (no :: ns) ++ rest := by
    rcases hk with ⟨_, _, h, _⟩ | ⟨_, h, _⟩
    · exact ⟨_, h⟩
    · exact ⟨_, by rw [h, List.append_assoc]⟩
  refine q_asg (ev_at (j := pre.length) (x := no) (ev_var rfl) hS (ev_var rfl) (at_mid (post := ns ++ rest) (by rw [hrest]; simp))) fun H1 e1 => ?_
  have hpl : (fl.map V.ref)[j]? = some (V.ref p) := by rw [List.getElem?_map, hp]; rfl
  refine q_tup2 (p := p) (v1 := .int (ns.length : Nat)) (v2 := .int (k : Nat)) (ev_op (ev_c (v := V.ref c.a_FORMS)) (ev_is (ev_I0 (ev_var rfl) ev_c) (congrArg V.int hj)) (rv_ixT (hfs H1) (atI_nat hpl))) (hfp H1) fun H2 e2 => ?_
  have e12 := e1.trans e2
  refine q_asgL (el_cut (pre := pre ++ [no]) (mid := ns) (post := rest) (i := (pre.length : Nat) + 1) (j := (pre.length : Nat) + 1 + (ns.length : Nat)) (ev_var rfl) (ex_l e12 hS) (by rw [hrest]; simp) (by rw [List.length_append, List.length_singleton]; omega) (by rw [List.length_append, List.length_singleton]; omega) (ev_I0 (ev_var rfl) ev_c) (ev_I0 (ev_I0 (ev_var rfl) ev_c) (ev_var rfl))) fun b H3 hb e3 h3 => ?_
  have e13 := e12.trans e3
  have hb0 : H b = none := fresh_back e12 hb
  refine q_asg (ev_is (ev_I0 (i := (pre.length : Nat) + 1) (j := (ns.length : Nat)) (ev_I0 (ev_var rfl) ev_c) (ev_var rfl)) (congrArg V.int (show ((pre.length : Nat) : Int) + 1 + (ns.length : Nat) = ((pre.length + (1 + ns.length) : Nat) : Int) by omega))) fun H4 e4 => ?_
  have e14 := e13.trans e4
  refine q_asgL (el_lst ea_nil (by decide)) fun r0 H5 hr0 e5 h5 => ?_
  have e15 := e14.trans e5
  have hr00 : H r0 = none := fresh_back e14 hr0
  have h3' := e5 _ _ (e4 _ _ h3)
  rcases hk with ⟨rfl, rfl, hl, hm⟩ | ⟨rfl, hl, hm⟩
  · refine q_when (b := false) (et_is (et_test (ev_I0 (i := (0 : Nat)) (j := 0) (ev_var rfl) ev_c)) (by decide)) (fun hb => nomatch hb) fun _ H6 e6 => ?_
    refine s_retU (xs := [.int no, .ref b, .ref r0, .int ((pre.length + (1 + ns.length) : Nat) : Int)]) (eu_tup (ea_cons (ev_var rfl) (ea_cons (ev_var rfl) (ea_cons (ev_var rfl) (ea_cons (ev_var rfl) ea_nil)))) (by show 4 ≤ 100000; decide)) fun t H7 ht e7 h7 => ?_
    subst hm
    exact q t b r0 H7 (e15.trans (e6.trans e7)) hb0 hr00 h7 (e7 _ _ (e6 _ _ h3')) (e7 _ _ (e6 _ _ h5))
  · refine q_when (b := true) (et_is (et_test (ev_I0 (i := (1 : Nat)) (j := 0) (ev_var rfl) ev_c)) (by decide)) (fun _ H6 e6 => ?_) (fun hb => nomatch hb)
    have e16 := e15.trans e6
    refine q_asg (ev_at (j := pre.length + (1 + ns.length)) (x := (row.length : Nat)) (ev_var rfl) (ex_l e16 hS) (ev_var rfl) ?_) fun H7 e7 => ?_
    · have r := at_mid (ls := l) (pre := pre ++ (no :: ns)) (post := row ++ post) (x := (row.length : Nat)) (by rw [hl]; simp)
      rw [List.length_append, List.length_cons] at r
      rw [show pre.length + (1 + ns.length) = pre.length + (ns.length + 1) by omega]
      exact r
    have e17 := e16.trans e7
    refine q_asgL (el_cut (pre := pre ++ (no :: ns) ++ [(row.length : Int)]) (mid := row) (post := post) (i := ((pre.length + (1 + ns.length) : Nat) : Int) + 1) (j := ((pre.length + (1 + ns.length) : Nat) : Int) + 1 + (row.length : Nat)) (ev_var rfl) (ex_l e17 hS) (by rw [hl]; simp) (by simp; omega) (by simp; omega) (ev_I0 (ev_var rfl) ev_c) (ev_I0 (ev_I0 (ev_var rfl) ev_c) (ev_var rfl))) fun r1 H8 hr1 e8 h8 => ?_
    have hr10 : H r1 = none := fresh_back e17 hr1
    refine s_asg (ev_is (ev_I0 (i := ((pre.length + (1 + ns.length) : Nat) : Int) + 1) (j := (row.length : Nat)) (ev_I0 (ev_var rfl) ev_c) (ev_var rfl)) (congrArg V.int (show ((pre.length + (1 + ns.length) : Nat) : Int) + 1 + (row.length : Nat) = ((pre.length + m : Nat) : Int) by omega))) fun H9 e9 => ?_
    refine s_retU (xs := [.int no, .ref b, .ref r1, .int ((pre.length + m : Nat) : Int)]) (eu_tup (ea_cons (ev_var rfl) (ea_cons (ev_var rfl) (ea_cons (ev_var rfl) (ea_cons (ev_var rfl) ea_nil)))) (by show 4 ≤ 100000; decide)) fun t H10 ht e10 h10 => ?_
    exact q t b r1 H10 ((e17.trans e8).trans (e9.trans e10)) hb0 hr10 h10 (e10 _ _ (e9 _ _ (e8 _ _ (e7 _ _ (e6 _ _ h3'))))) (e10 _ _ (e9 _ _ h8))
end
end Ds

/-! All the calls, one behind the other. -/
namespace Ds
open PySem PySem.Spec PyProof.Rows L2 Evl

/-! ### what is asked -/
/-- a call as it is told: its number, its numbers, its row, what it is to the specification -/
def Told1 (q : List (List Int)) (no : Int) (ns row : List Int) (call : Kg73.Call) : Prop :=
  Kg73Neutral.callOf q = some call ∧ (no = 1 ∧ call = .begin_ ∨ no ≠ 1 ∧ callIs no ns row call) ∧
    ∃ k, PyKg73.shape no = some (ns.length, k) ∧ (k = 0 ∧ row = [] ∧ PyFlat.put1 q = no :: ns ∨ k = 1 ∧ PyFlat.put1 q = (no :: ns) ++ ((row.length : Int) :: row))
theorem told1 {q : List (List Int)} (h : Kg73Neutral.asked1 q = true) : ∃ no ns row call, Told1 q no ns row call := by
  unfold Kg73Neutral.asked1 at h
  split at h
  · exact ⟨1, [], [], .begin_, rfl, .inl ⟨rfl, rfl⟩, 0, rfl, .inl ⟨rfl, rfl, rfl⟩⟩
  · rename_i x b w
    exact ⟨2, [x, b, w], [], .dog x b w, rfl, .inr ⟨by decide, rfl, rfl⟩, 0, rfl, .inl ⟨rfl, rfl, rfl⟩⟩
  · rename_i d j k w
    exact ⟨3, [d, j, k, w], [], .show_ d j k w, rfl, .inr ⟨by decide, rfl, rfl⟩, 0, rfl, .inl ⟨rfl, rfl, rfl⟩⟩
  · rename_i i k
    exact ⟨4, [i, k], [], .enter i k, rfl, .inr ⟨by decide, rfl, rfl⟩, 0, rfl, .inl ⟨rfl, rfl, rfl⟩⟩
  · rename_i i k
    exact ⟨5, [i, k], [], .grade i k, rfl, .inr ⟨by decide, rfl, rfl⟩, 0, rfl, .inl ⟨rfl, rfl, rfl⟩⟩
  · rename_i k x l
    have hl : l.length ≤ 10 := by
      unfold Kg73Neutral.row at h
      rw [Bool.and_eq_true, Bool.and_eq_true, Bool.and_eq_true] at h
      exact of_decide_eq_true h.2.2.2
    exact ⟨6, [k, x], l, .row k x l, rfl, .inr ⟨by decide, rfl, rfl, rfl, hl⟩, 1, rfl, .inr ⟨rfl, by simp [PyFlat.put1, PyFlat.putRows, PyFlat.putRow]⟩⟩
  · rename_i i k
    exact ⟨7, [i, k], [], .award i k, rfl, .inr ⟨by decide, rfl, rfl⟩, 0, rfl, .inl ⟨rfl, rfl, rfl⟩⟩
  · exact ⟨8, [], [], .close, rfl, .inr ⟨by decide, rfl⟩, 0, rfl, .inl ⟨rfl, rfl, rfl⟩⟩
  · rename_i k x
    exact ⟨9, [k, x], [], .may k x, rfl, .inr ⟨by decide, rfl, rfl⟩, 0, rfl, .inl ⟨rfl, rfl, rfl⟩⟩
  · rename_i i
    exact ⟨10, [i], [], .titles i, rfl, .inr ⟨by decide, rfl, rfl⟩, 0, rfl, .inl ⟨rfl, rfl, rfl⟩⟩
  · rename_i i
    exact ⟨11, [i], [], .kept i, rfl, .inr ⟨by decide, rfl, rfl⟩, 0, rfl, .inl ⟨rfl, rfl, rfl⟩⟩
  · exact ⟨12, [], [], .now, rfl, .inr ⟨by decide, rfl⟩, 0, rfl, .inl ⟨rfl, rfl, rfl⟩⟩
  · cases h
theorem whole_id (q : List (List Int)) : PyKg73.whole q = q := by
  unfold PyKg73.whole
  split <;> rfl
theorem asked_parts {l : List Int} (h : PyKg73.answers_asked l = true) : ∃ raw, l = PyFlat.put raw ∧ (∀ q ∈ raw, ∃ no ns row call, Told1 q no ns row call) ∧ raw.length ≤ 250 ∧
    PyKg73.answers l = PyFlat.told (PyFlat.played Kg73Neutral.step Kg73Neutral.start raw) ∧ (PyKg73.answers l).length ≤ 10000000 := by
  unfold PyKg73.answers_asked at h
  cases e : PyFlat.calls PyKg73.shape l.length l with
  | none => rw [e] at h; cases h
  | some raw =>
    rw [e] at h
    have h2 : (!raw.isEmpty && PyFlat.atMost 250 raw && PyInside.calls PyKg73.bound raw && Kg73Neutral.asked (raw.map PyKg73.whole) && PyFlat.short 10000000 (PyKg73.answers l)) = true := h
    have hw : raw.map PyKg73.whole = raw := by
      have : PyKg73.whole = id := funext whole_id
      rw [this, List.map_id]
    rw [hw, Bool.and_eq_true, Bool.and_eq_true, Bool.and_eq_true, Bool.and_eq_true] at h2
    obtain ⟨⟨⟨⟨_, h3⟩, _⟩, h4⟩, h5⟩ := h2
    obtain ⟨p1, _⟩ := PyFlat.put_calls _ _ _ e
    unfold Kg73Neutral.asked at h4
    rw [Bool.and_eq_true] at h4
    refine ⟨raw, p1, fun q hq => told1 (List.all_eq_true.mp h4.1 q hq), of_decide_eq_true h3, ?_, of_decide_eq_true h5⟩
    unfold PyKg73.answers PyKg73.calls
    rw [e]
    show PyFlat.told (PyFlat.played Kg73Neutral.step Kg73Neutral.start (raw.map PyKg73.whole)) = _
    rw [hw]
theorem put_app : ∀ a b : List (List (List Int)), PyFlat.put (a ++ b) = PyFlat.put a ++ PyFlat.put b
  | [], b => rfl
  | q :: a, b => by
    show PyFlat.put1 q ++ PyFlat.put (a ++ b) = (PyFlat.put1 q ++ PyFlat.put a) ++ PyFlat.put b
    rw [put_app a b, List.append_assoc]
def after : Kg73.State → List (List (List Int)) → Kg73.State
  | s, [] => s
  | s, q :: r => after (Kg73Neutral.step s q).1 r
theorem after_app : ∀ s a b, after s (a ++ b) = after (after s a) b
  | s, [], b => rfl
  | s, q :: a, b => after_app _ a b
theorem played_app : ∀ s a b, PyFlat.played Kg73Neutral.step s (a ++ b) = PyFlat.played Kg73Neutral.step s a ++ PyFlat.played Kg73Neutral.step (after s a) b
  | s, [], b => rfl
  | s, q :: a, b => congrArg (List.cons (Kg73Neutral.step s q).2) (played_app _ a b)
theorem told_app (a b : List (List Int)) : PyFlat.told (a ++ b) = PyFlat.told a ++ PyFlat.told b := List.flatMap_append
theorem step_is {s : Kg73.State} {q : List (List Int)} {call : Kg73.Call} (h : Kg73Neutral.callOf q = some call) : Kg73Neutral.step s q = ((Kg73.spec s call).1, (Kg73.spec s call).2.value :: (Kg73.spec s call).2.out) := by
  unfold Kg73Neutral.step
  rw [h]
def toldTo (done : List (List (List Int))) : List Int := PyFlat.told (PyFlat.played Kg73Neutral.step Kg73Neutral.start done)
theorem toldTo_snoc (done : List (List (List Int))) (q : List (List Int)) : toldTo (done ++ [q]) = toldTo done ++ (((Kg73Neutral.step (after Kg73.init done) q).2.length : Int) :: (Kg73Neutral.step (after Kg73.init done) q).2) := by
  unfold toldTo
  rw [played_app, told_app]
  refine congrArg (PyFlat.told _ ++ ·) ?_
  show (_ :: _) ++ [] = _
  rw [List.append_nil]
  rfl
theorem toldTo_len (a b : List (List (List Int))) : (toldTo a).length ≤ (toldTo (a ++ b)).length := by
  unfold toldTo
  rw [played_app, told_app, List.length_append]
  omega
theorem toldTo_nil {done : List (List (List Int))} (h : toldTo done = []) : done = [] := by
  cases done with
  | nil => rfl
  | cons q r => cases h
/-- a first call writes no row -/
theorem init_rows (q : Kg73.Call) (w : Kg73.Show) (h : (Kg73.spec Kg73.init q).1.show_ = some w) : w.rows = [] := by
  have no : ∀ {z : Kg73.State × Kg73.Ans}, z.1 = Kg73.init → z.1.show_ = some w → w.rows = [] := fun {z} e h => by
    rw [e] at h
    cases h
  have on : ∀ f, (Kg73.onShow Kg73.init f).1 = Kg73.init := fun f => by rw [on_none rfl]
  have two : ∀ {b : Prop} [Decidable b] {x : Kg73.Ans} {f}, (if b then (Kg73.init, x) else Kg73.onShow Kg73.init f).1 = Kg73.init := fun {b} _ {x f} => by
    split
    · rfl
    · exact on f
  cases q with
  | begin_ => exact no rfl h
  | dog x b v =>
    change (if _ then (Kg73.init, _) else if _ then (Kg73.init, _) else _ : Kg73.State × Kg73.Ans).1.show_ = some w at h
    split at h
    · exact no rfl h
    · split at h
      · exact no rfl h
      · cases h
  | show_ d j k v =>
    change (if _ then (Kg73.init, _) else if _ then (Kg73.init, _) else if _ then (Kg73.init, _) else _ : Kg73.State × Kg73.Ans).1.show_ = some w at h
    split at h
    · exact no rfl h
    · split at h
      · exact no rfl h
      · split at h
        · exact no rfl h
        · cases h
          rfl
  | enter i k => exact no two h
  | grade i k => exact no two h
  | row k x l => exact no two h
  | award i k => exact no two h
  | close => exact no (z := Kg73.spec Kg73.init .close) rfl h
  | may k x => exact no two h
  | titles i =>
    change (if _ then (Kg73.init, _) else _ : Kg73.State × Kg73.Ans).1.show_ = some w at h
    split at h
    · exact no rfl h
    · exact no rfl h
  | kept i =>
    change (if _ then (Kg73.init, _) else _ : Kg73.State × Kg73.Ans).1.show_ = some w at h
    split at h
    · exact no rfl h
    · exact no rfl h
  | now => exact no (z := Kg73.spec Kg73.init .now) rfl h

section
variable {K : PySem.W.Frag} {mg : Str → Option Value} {c : Cs} {vs : List V} {H H0 : Hp} {Q : VK} {E : XK} {σ : L2.St} {D : Ends} {tz tu : TS} {te tn ta tb : TE} {t : TT}
variable {n : Nat} {s : Kg73.State} {g : GBook}
/-! ### a new book -/
def isBookNew (c : Cs) (H1 : Hp) (p : Addr) (H2 : Hp) : Prop := ∃ l dx, H1 l = none ∧ l ≠ p ∧ H2 l = some (.lst []) ∧ H2 p = some (.ins c.C_Book dx (bookF l .non 0))
theorem ev_mkBook {tr : TA} (hv : EvA tr σ H []) : EvN (tMake c.C_Book (sp_Book_init K c) [] E0 tr) σ H (isBookNew c) := fun H1 e Q q => hv H1 e _ fun H2 e2 => by
  intro p dx np nd ne
  refine ⟨p, dx, rfl, upd_same, fun l H' hl hlp keep hl' hp' => ⟨rfl, ?_⟩⟩
  exact q p H' (fresh_back e2 np) (made_ex e2 np nd keep) ⟨l, dx, fresh_back e2 (made_none hl hlp), hlp, hl', hp'⟩
theorem q_asgN {i : Nat} {P : Hp → Addr → Hp → Prop} (h : EvN te σ H P) (k : ∀ p H1, H p = none → Ex H H1 → P H p H1 → tz D (σ.set i (some (.ref p))) H1) : tSeq (tAsg te (gName i)) tz D σ H :=
  h H (Ex.refl H) _ fun p H1 hp e hP => k p H1 hp e hP
theorem book_new {H1 H2 : Hp} {p : Addr} (n : Nat) (hp : H1 p = none) (h : isBookNew c H1 p H2) : ∃ g, g.b = p ∧ BookAt c H2 n Kg73.init g ∧ ∀ x ∈ g.foot, H1 x = none := by
  obtain ⟨l, dx, h1, h2, h3, h4⟩ := h
  refine ⟨⟨p, l, [], none⟩, rfl, ⟨⟨dx, h4⟩, h3, rfl, (fun i d x h => nomatch h), fun _ => rfl, (fun w h => nomatch h), ?_, (fun x h => nomatch h)⟩, fun x hx => ?_⟩
  · show [p, l].Nodup
    simp
    exact fun z => h2 z.symm
  · have hx' : x ∈ [p, l] := hx
    rcases List.mem_cons.mp hx' with rfl | hx'
    · exact hp
    · have : x = l := by simpa using hx'
      rw [this]
      exact h1
/-! ### a list that is not the book's is written -/
theorem BookAt.out (B : BookAt c H n s g) {lo : Addr} {xs ys : List V} (hm : H lo = some (.lst xs)) (hf : lo ∉ g.foot) (hr : ∀ x, g.sh = some x → ∀ p ∈ x.rs, p.1 ≠ lo) : BookAt c (upd H lo (.lst ys)) n s g := by
  have nel : ∀ {a : Addr} {o : HO}, H a = some o → (∀ xs, o ≠ .lst xs) → upd H lo (.lst ys) a = some o := fun {a o} h ho => by
    rw [upd_ne (ne_of h hm (ho _))]
    exact h
  refine ⟨?_, ?_, B.dn, fun i d x hd hx => ?_, B.no, fun w hw => ?_, B.nd, B.rr⟩
  · obtain ⟨dx, h⟩ := B.ins
    exact ⟨dx, nel h fun xs z => nomatch z⟩
  · rw [upd_ne fun z => hf (by unfold GBook.foot; rw [← z]; simp)]
    exact B.ld
  · obtain ⟨⟨dy, a1⟩, a2, a3, a4⟩ := B.ds i d x hd hx
    refine ⟨⟨dy, nel a1 fun xs z => nomatch z⟩, ?_, fun q hq => ?_, a4⟩
    · rw [upd_ne]
      · exact a2
      · intro z
        refine hf ?_
        unfold GBook.foot
        rw [← z]
        exact List.mem_cons_of_mem _ (List.mem_cons_of_mem _ (List.mem_append_right _ (List.mem_map.mpr ⟨x, List.mem_of_getElem? hx, rfl⟩)))
    · obtain ⟨dz, a5⟩ := a3 q hq
      exact ⟨dz, nel a5 fun xs z => nomatch z⟩
  · obtain ⟨x, hx, sa⟩ := B.on w hw
    refine ⟨x, hx, sa.other hm (fun z => hf ?_) (hr x hx)⟩
    unfold GBook.foot
    rw [hx]
    exact List.mem_cons_of_mem _ (List.mem_cons_of_mem _ (List.mem_append_left _ z))
theorem ev_xf {a C d : Addr} {fs : List (Str × V)} {f : Str} {v : V} (h : Ev te σ H (.ref a)) (hd : H d = some (.xd fs)) (hl : fs.lookup f = some v) : Ev (tXf a (.ref C) (some d) C f te) σ H v := fun H1 e Q q =>
  h H1 e _ fun H2 e2 => ⟨rfl, rfl, d, fs, v, rfl, (e.trans e2) _ _ hd, hl, q H2 e2⟩
theorem q_tryIf {tw : WX → TS} {ww : Ends → WX} {b : Bool} (h : EvT t σ H b) (h1 : b = true → ∀ H1, Ex H H1 → tu { D with nx := tz D } σ H1) (h2 : b = false → ∀ H1, Ex H H1 → tw (ww { D with nx := tz D }) { D with nx := tz D } σ H1) :
    tSeq (fun D σ H => (fun W => tIfS t tu (tw W)) (ww D) D σ H) tz D σ H := s_if (D := { D with nx := tz D }) h h1 h2

/-! ### the word of the loop -/
structure Word (c : Cs) (raw : List (List (List Int))) (H : Hp) (a lo : Addr) (m : Nat) (σ' : L2.St) (H' : Hp) : Prop where
  w : ∃ done rest g x5 x6 x7 x8, raw = done ++ rest ∧ m = rest.length ∧ σ' = [some (.ref a), some (.ref g.b), some (.ref lo), some (.int ((PyFlat.put done).length : Nat)), none, x5, x6, x7, x8] ∧
    BookAt c H' done.length (after Kg73.init done) g ∧ Good (after Kg73.init done) done.length ∧ H' lo = some (.lst ((toldTo done).map V.int)) ∧ lo ∉ g.foot ∧ Ex H H' ∧ ∀ x ∈ g.foot, H x = none
theorem s_tail {raw done rest' : List (List (List Int))} {q : List (List Int)} {call : Kg73.Call} {a lo p : Addr} {x5 x6 x7 : Option V} {j : Int} {H' : Hp} (er : raw = done ++ q :: rest') (hl : (toldTo raw).length ≤ 10000000) (hc : Kg73Neutral.callOf q = some call)
    (B : BookAt c H' (done.length + 1) (after Kg73.init (done ++ [q])) g) (G : Good (after Kg73.init (done ++ [q])) (done.length + 1)) (hlo : H' lo = some (.lst ((toldTo done).map V.int))) (hf : lo ∉ g.foot) (ex : Ex H H') (hn : H lo = none) (fr : ∀ x ∈ g.foot, H x = none)
    (hp : H' p = some (.lst ((Kg73Neutral.step (after Kg73.init done) q).2.map V.int))) (hpl : p ≠ lo) (hj : j = ((PyFlat.put (done ++ [q])).length : Nat)) (hD : ∀ σ2 H2, Word c raw H a lo rest'.length σ2 H2 → D.nx σ2 H2) :
    tSeq (tDrop (tBM K "list" rAppend (tVar 2) (tCons (tCB (rLenS K) (tCons (tVar 8) tNil)) tNil))) (tDrop (tBM K "list" rExtend (tVar 2) (tCons (tVar 8) tNil))) D [some (.ref a), some (.ref g.b), some (.ref lo), some (.int j), none, x5, x6, x7, some (.ref p)] H' := by
  have hr : ∀ x, g.sh = some x → ∀ r ∈ x.rs, r.1 ≠ lo := fun x hx r hr z => by
    cases hs : (after Kg73.init (done ++ [q])).show_ with
    | none => rw [B.no hs] at hx; cases hx
    | some w =>
      obtain ⟨x', hx', sa⟩ := B.on w hs
      rw [hx] at hx'
      obtain rfl := Option.some.inj hx'
      by_cases hd : done = []
      · subst hd
        have h0 : w.rows = [] := by
          refine init_rows call w ?_
          rw [← hs]
          show _ = (Kg73Neutral.step Kg73.init q).1.show_
          rw [step_is hc]
        have h1 := sa.rsE
        rw [h0, List.map_eq_nil_iff] at h1
        rw [h1] at hr
        cases hr
      · have h1 := sa.rs r hr
        rw [z, hlo] at h1
        have h2 : (toldTo done).map V.int = r.2.dogs.map fun i => V.ref (g.at i) := HO.lst.inj (Option.some.inj h1)
        cases ht : toldTo done with
        | nil => exact hd (toldTo_nil ht)
        | cons i t =>
          rw [ht] at h2
          cases hg : r.2.dogs with
          | nil => rw [hg] at h2; cases h2
          | cons u v => rw [hg] at h2; cases h2
  have hlen : (toldTo done).length + (1 + (Kg73Neutral.step (after Kg73.init done) q).2.length) ≤ 10000000 := by
    have h1 := toldTo_len (done ++ [q]) rest'
    rw [show (done ++ [q]) ++ rest' = raw by rw [er]; simp, toldTo_snoc, List.length_append, List.length_cons] at h1
    omega
  refine q_appV hlo (ev_var rfl) (ev_len (ev_var rfl) (sq_of hp)) (by rw [List.length_map]; omega) fun H1 e1 => ?_
  have B1 := (B.mono e1).out (ys := (toldTo done).map V.int ++ [.int ((((Kg73Neutral.step (after Kg73.init done) q).2.map V.int).length : Nat) : Int)]) (e1 _ _ hlo) hf hr
  refine s_extV upd_same (ev_var rfl) (ev_var rfl) (by rw [upd_ne hpl]; exact e1 _ _ hp) (by rw [List.length_append, List.length_map, List.length_map, List.length_singleton]; omega) fun H2 e2 => hD _ _ ?_
  refine ⟨done ++ [q], rest', g, x5, x6, x7, _, by rw [er]; simp, rfl, by rw [hj], ?_, ?_, ?_, hf, ?_, fr⟩
  · rw [List.length_append, List.length_singleton]
    exact (B1.mono e2).out (e2 _ _ upd_same) hf hr
  · rw [List.length_append, List.length_singleton]
    exact G
  · rw [upd_same, toldTo_snoc, List.map_append, List.map_cons, List.length_map, List.append_assoc]
    rfl
  · exact Ex.mut ((Ex.mut (ex.trans e1) hn).trans e2) hn
theorem q_call {sp : Sp} {tr : TA} {gg : V → L2.St → Hp → (L2.St → Hp → Prop) → Prop} (hv : EvA tr σ H vs) (h : ∀ H1, Ex H H1 → sp vs H1 (fun v H2 => gg v σ H2 (tz D)) E) : tSeq (tAsg (tCall sp [] E tr) gg) tz D σ H :=
  hv H (Ex.refl H) _ fun H1 e1 => by
    rw [List.append_nil]
    exact h H1 e1
theorem s_callS {sp : Sp} {tr : TA} {W : WX} {i : Nat} (hv : EvA tr σ H vs) (h : ∀ H1, Ex H H1 → sp vs H1 (fun v H2 => D.nx (σ.set i (some v)) H2) (WE W σ)) : tAsg (tCallS sp (WE W) tr) (gName i) D σ H :=
  hv H (Ex.refl H) _ fun H1 e1 => h H1 e1
theorem pure_answers (T : Txt K mg c) (vs : List V) (H : Hp) (Q : VK) (E : XK) (h : sp_answers K c vs H Q E) : t_answers K c { nx := fun _ H' => Q .non H', rt := Q } (start N_answers vs) H := by
  obtain ⟨a, l, rfl, hS, hl6, hask, hq⟩ := h
  obtain ⟨raw, hput, hall, h250, hans, hlen⟩ := asked_parts hask
  have hlen' : (toldTo raw).length ≤ 10000000 := by
    unfold toldTo
    rw [← hans]
    exact hlen
  unfold t_answers
  refine q_asgN (ev_mkBook ea_nil) fun b0 H1 hb0 e1 hB0 => ?_
  obtain ⟨g0, rfl, B0, F0⟩ := book_new 0 hb0 hB0
  refine q_asgL (el_lst ea_nil (by decide)) fun lo H2 hlo e2 h2 => ?_
  have hloH : H lo = none := fresh_back e1 hlo
  refine q_asg ev_c fun H3 e3 => ?_
  refine q_while (Word c raw H a lo) raw.length ⟨[], raw, g0, none, none, none, none, rfl, rfl, rfl, B0.mono (e2.trans e3), Good.init _, e3 _ _ h2, fun z => B0.new_foot hlo z, (e1.trans e2).trans e3, F0⟩ fun m σ' H' hw => ?_
  obtain ⟨done, rest, g, x5, x6, x7, x8, er, rfl, rfl, B, G, hlo', hf, ex, fr⟩ := hw.w
  refine ⟨_, et_test (ev_I0 (ev_var rfl) (ev_len (ev_var rfl) (ex_l ex hS))), fun hb H4 e4 => ?_, fun hb H4 e4 => ?_⟩
  · cases rest with
    | nil =>
      have h1 := of_decide_eq_true hb
      rw [er, List.append_nil] at hput
      rw [List.length_map, hput] at h1
      omega
    | cons q rest' =>
      refine ⟨Word c raw H a lo rest'.length, fun σ2 H2 w => ⟨_, Nat.lt_succ_self _, w⟩, ?_⟩
      obtain ⟨no, ns, row, call, hcall, hkind, k, hsh, hshape⟩ := hall q (by rw [er]; simp)
      have hl : l = PyFlat.put done ++ (PyFlat.put1 q ++ PyFlat.put rest') := by rw [hput, er, put_app]; rfl
      have hj : (((PyFlat.put done).length + (PyFlat.put1 q).length : Nat) : Int) = ((PyFlat.put (done ++ [q])).length : Nat) := by
        rw [put_app, List.length_append]
        show _ = (((PyFlat.put done).length + (PyFlat.put1 q ++ []).length : Nat) : Int)
        rw [List.append_nil]
      have haf : after Kg73.init (done ++ [q]) = (Kg73Neutral.step (after Kg73.init done) q).1 := by rw [after_app]; rfl
      have hst := step_is (s := after Kg73.init done) hcall
      have hd250 : done.length < 250 := by
        rw [er, List.length_append, List.length_cons] at h250
        omega
      have G1 : Good (after Kg73.init (done ++ [q])) (done.length + 1) := by
        rw [haf, hst]
        exact good_step G call
      refine q_call (ea_cons (ev_var rfl) (ea_cons (ev_var rfl) ea_nil)) fun H5 e5 => ?_
      have e45 := e4.trans e5
      refine ⟨a, l, PyFlat.put done, PyFlat.put rest', no, ns, row, (PyFlat.put1 q).length, k, ex_l (ex.trans e45) hS, hl6, rfl, hsh, ?_, fun t b r H6 e6 hb0 hr0 ht hb1 hr1 => ⟨t, _, rfl, st_of ht, rfl, _, _, rfl, _, _, rfl, _, _, rfl, _, _, rfl, rfl, ?_⟩⟩
      · rcases hshape with ⟨h1, h2, h3⟩ | ⟨h1, h3⟩
        · refine .inl ⟨h1, h2, ?_, ?_⟩
          · rw [hl, h3, List.append_assoc]
          · rw [h3, List.length_cons]; omega
        · refine .inr ⟨h1, ?_, ?_⟩
          · rw [hl, h3]; simp
          · rw [h3, List.length_append, List.length_cons, List.length_cons]; omega
      have e46 := e45.trans e6
      have ex6 := ex.trans e46
      refine q_tryIf (tw := fun W => tAsg (tCallS (sp_answer K c) (WE W) (tCons (tVar 1) (tCons (tVar 5) (tCons (tVar 6) (tCons (tVar 7) tNil))))) (gName 8))
        (ww := wAs K (.ref c.C_Refusal) 4 (fun a cls d => (tAsg (tLst (tCons (tXf a cls d c.C_Refusal "number" (tVar 4)) tNil)) (gName 8))) (fun _ _ _ _ => False))
        (et_test (ev_eqI (ev_var rfl) ev_c)) (fun hb H7 e7 => ?_) (fun hb H7 e7 => ?_)
      · have hno := of_decide_eq_true hb
        have hbg : call = .begin_ := by
          rcases hkind with ⟨_, h⟩ | ⟨h, _⟩
          · exact h
          · exact absurd hno h
        subst hbg
        refine q_asgN (ev_mkBook ea_nil) fun b8 H8 hb8 e8 hB8 => ?_
        obtain ⟨g', rfl, B8, F8⟩ := book_new (done.length + 1) hb8 hB8
        refine s_asgL (el_lst (ea_cons ev_c ea_nil) (by show 1 ≤ 100000; decide)) fun p H9 hp9 e9 h9 => ?_
        have e67 := e46.trans e7
        have e69 := e67.trans (e8.trans e9)
        have hlo9 := e69 _ _ hlo'
        have hi : after Kg73.init (done ++ [q]) = Kg73.init := by rw [haf, hst]; rfl
        refine s_tail (g := g') er hlen' hcall ?_ G1 hlo9 (fun z => absurd (F8 lo z) ?_) (ex.trans e69) hloH (fun x hx => fresh_back (ex.trans e67) (F8 x hx)) ?_ (fun z => ?_) hj fun σ2 H2 w => w
        · rw [hi]
          exact B8.mono e9
        · rw [e67 _ _ hlo']
          exact fun z => nomatch z
        · rw [hst]
          exact h9
        · rw [z, (e67.trans e8) _ _ hlo'] at hp9
          cases hp9
      · have hno := of_decide_eq_false hb
        rcases hkind with ⟨h, _⟩ | ⟨_, hkind⟩
        · exact absurd h hno
        refine s_callS (ea_cons (ev_var rfl) (ea_cons (ev_var rfl) (ea_cons (ev_var rfl) (ea_cons (ev_var rfl) ea_nil)))) fun H8 e8 => ?_
        have e48 := e46.trans (e7.trans e8)
        have ex8 := ex.trans e48
        have hlo8 := e48 _ _ hlo'
        refine ⟨no, b, r, ns, row, sq_of ((e7.trans e8) _ _ hb1), sq_of ((e7.trans e8) _ _ hr1), done.length, after Kg73.init done, g, [.int no, .ref b, .ref r], call, rfl, ⟨rfl, hkind⟩, B.mono e48, G, hd250, fun v hv d H9 e9 hd => ?_, fun s' v out hs p H9 g' hgb B9 K9 hp9 h9 => ?_⟩
        · refine ⟨true, T.te, fun _ a0 ha0 => ?_, fun z => nomatch z⟩
          refine s_asgL (el_lst (ea_cons (ev_xf (ev_var rfl) hd lk_here) ea_nil) (by show 1 ≤ 100000; decide)) fun p H10 hp10 e10 h10 => ?_
          have e49 := e48.trans (e9.trans e10)
          refine s_tail (g := g) er hlen' hcall ?_ G1 (e49 _ _ hlo') hf (ex.trans e49) hloH fr ?_ (fun z => ?_) hj fun σ2 H2 w => w
          · rw [haf, hst, hv]
            exact (B.mono e49).more (Nat.le_succ _)
          · rw [hst, hv]
            exact h10
          · rw [z, e9 _ _ hlo8] at hp10
            cases hp10
        · have ex9 : Ex H H9 := fun x o hx => K9.keep x o (ex8 x o hx) fun z => by rw [fr x z] at hx; cases hx
          show tSeq _ _ _ [some (.ref a), some (.ref g.b), some (.ref lo), _, none, _, _, _, some (.ref p)] H9
          rw [← hgb]
          refine s_tail (g := g') er hlen' hcall ?_ G1 (K9.keep _ _ hlo8 hf) (fun z => ?_) ex9 hloH (fun x hx => ?_) ?_ (fun z => ?_) hj fun σ2 H2 w => w
          · rw [haf, hst, hs]
            exact B9
          · rcases K9.new lo z with h | h
            · exact hf h
            · rw [hlo8] at h; cases h
          · rcases K9.new x hx with h | h
            · exact fr x h
            · exact fresh_back ex8 h
          · rw [hst, hs]
            exact h9
          · rw [z, hlo8] at hp9
            cases hp9
  · have h1 := of_decide_eq_false hb
    cases rest with
    | cons q rest' =>
      obtain ⟨no, ns, row, call, hcall, hkind, k, hsh, hshape⟩ := hall q (by rw [er]; simp)
      rw [List.length_map, hput, er, put_app, List.length_append] at h1
      have h2 : 1 ≤ (PyFlat.put (q :: rest')).length := by
        show 1 ≤ (PyFlat.put1 q ++ PyFlat.put rest').length
        rw [List.length_append]
        rcases hshape with ⟨_, _, h3⟩ | ⟨_, h3⟩
        · rw [h3, List.length_cons]; omega
        · rw [h3, List.length_append, List.length_cons]; omega
      omega
    | nil =>
      refine s_ret (ev_var rfl) fun H5 e5 => hq H5 lo ?_
      rw [er, List.append_nil] at hans
      rw [hans]
      exact (e4.trans e5) _ _ hlo'
end
end Ds

/-! Printed by gen.py: that each def has its reading. -/
namespace Ds
open PySem PySem.Spec PyProof.Rows L2 Evl

theorem d_Award_init {P : Program} {w : World} {K : PySem.W.Frag} {mg : Str → Option Value} {base : Heap} {c : Cs} (T : Txt K mg c)
    {cdv : Value} {A : Around} {outer : List Env} {s : Shared} {H : Hp} {E : XK} (hr : Room 0 (A.deeper (envOfC "Award.__init__" (defScope s_Award_init) s.heap.objs.size c.f_Award_init cdv))) :
    PSs (cxOf CX0 P w K mg base N_Award_init "Award.__init__" (defScope s_Award_init) c.f_Award_init cdv A outer s H E).nox (defBody s_Award_init) (t_Award_init K c) := by
  unfold t_Award_init
  exact (pss_cons (ps_fld (pv 0) (by exact (pv 1)) rfl) (pss_cons (ps_fld (pv 0) (by exact (pv 2)) rfl) (pss_cons (ps_fld (pv 0) (by exact (pv 3)) rfl) (pss_one (ps_fld (pv 0) (by exact (pv 4)) rfl)))))
theorem d_Dog_init {P : Program} {w : World} {K : PySem.W.Frag} {mg : Str → Option Value} {base : Heap} {c : Cs} (T : Txt K mg c)
    {cdv : Value} {A : Around} {outer : List Env} {s : Shared} {H : Hp} {E : XK} (hr : Room 0 (A.deeper (envOfC "Dog.__init__" (defScope s_Dog_init) s.heap.objs.size c.f_Dog_init cdv))) :
    PSs (cxOf CX0 P w K mg base N_Dog_init "Dog.__init__" (defScope s_Dog_init) c.f_Dog_init cdv A outer s H E).nox (defBody s_Dog_init) (t_Dog_init K c) := by
  unfold t_Dog_init
  exact (pss_cons (ps_fld (pv 0) (by exact (pv 1)) rfl) (pss_cons (ps_fld (pv 0) (by exact (pv 2)) rfl) (pss_cons (ps_fld (pv 0) (by exact (pv 3)) rfl) (pss_cons (ps_fld (pv 0) (by exact (pv 4)) rfl) (pss_one (ps_fld (pv 0) (by exact (pe_lst pa_nil)) rfl))))))
theorem d_Dog_has_enough {P : Program} {w : World} {K : PySem.W.Frag} {mg : Str → Option Value} {base : Heap} {c : Cs} (T : Txt K mg c)
    {cdv : Value} {A : Around} {outer : List Env} {s : Shared} {H : Hp} {E : XK} (hr : Room 0 (A.deeper (envOfC "Dog.has_enough" (defScope s_Dog_has_enough) s.heap.objs.size c.f_Dog_has_enough cdv))) :
    PSs (cxOf CX0 P w K mg base N_Dog_has_enough "Dog.has_enough" (defScope s_Dog_has_enough) c.f_Dog_has_enough cdv A outer s H E).nox (defBody s_Dog_has_enough) (t_Dog_has_enough K c) := by
  unfold t_Dog_has_enough
  exact (pss_cons (ps_setLc (i := 6) (own := [("award", 8)]) (g := (gName 8)) (tt := (tTest (tOp rEq (tFld K (tVar 8) "kind") (tVar 1)))) rfl sc_Dog_has_enough.nd rfl rfl (sw_true rfl rfl rfl (by decide +kernel)) (pi_list (pe_fld (pv 0) rfl)) (blkOk_by (own := [("award", 8)]) (N := N_Dog_has_enough) (sc := defScope s_Dog_has_enough) (by decide +kernel)) (fun _ _ _ _ _ => (pg_name (i := 8) sc_Dog_has_enough.nd rfl (by first | exact Or.inl rfl | exact Or.inr rfl))) (fun _ _ _ _ _ => (pts_one (pt_cmpR op_eq (pe_fld (pv 8) rfl) (pv 1) (nomark _)))) (fun _ _ _ _ _ => (pv 8))) (pss_cons (ps_if (pt_cmpR op_lt (pe_callB call_len_seq rfl T.b_len PySem.boot_len (pa_cons (pv 6) pa_nil)) (pv 2) (nomark _)) (pss_one (ps_ret (by exact pe_bl))) pss_nil) (pss_cons (ps_if (pt_cmpR op_lt (pe_lenSet rfl T.b_len rfl T.b_set (pe_lc (own := [("award", 8)]) (g := (gName 8)) (tt := tYes) rfl sc_Dog_has_enough.nd (pi_list (pv 6)) (blkOk_by (own := [("award", 8)]) (N := N_Dog_has_enough) (sc := defScope s_Dog_has_enough) (by decide +kernel)) (fun _ _ _ _ _ => (pg_name (i := 8) sc_Dog_has_enough.nd rfl (by first | exact Or.inl rfl | exact Or.inr rfl))) (fun _ _ _ _ _ => pts_nil) (fun _ _ _ _ _ => (pe_fld (pv 8) rfl)))) (pv 3) (nomark _)) (pss_one (ps_ret (by exact pe_bl))) pss_nil) (pss_cons (ps_if (pt_cmpR op_lt (pe_lenSet rfl T.b_len rfl T.b_set (pe_lc (own := [("award", 8)]) (g := (gName 8)) (tt := tYes) rfl sc_Dog_has_enough.nd (pi_list (pv 6)) (blkOk_by (own := [("award", 8)]) (N := N_Dog_has_enough) (sc := defScope s_Dog_has_enough) (by decide +kernel)) (fun _ _ _ _ _ => (pg_name (i := 8) sc_Dog_has_enough.nd rfl (by first | exact Or.inl rfl | exact Or.inr rfl))) (fun _ _ _ _ _ => pts_nil) (fun _ _ _ _ _ => (pe_fld (pv 8) rfl)))) (pv 4) (nomark _)) (pss_one (ps_ret (by exact pe_bl))) pss_nil) (pss_cons (ps_setLc (i := 7) (own := [("award", 8)]) (g := (gName 8)) (tt := tYes) rfl sc_Dog_has_enough.nd rfl rfl (sw_true rfl rfl rfl (by decide +kernel)) (pi_list (pv 6)) (blkOk_by (own := [("award", 8)]) (N := N_Dog_has_enough) (sc := defScope s_Dog_has_enough) (by decide +kernel)) (fun _ _ _ _ _ => (pg_name (i := 8) sc_Dog_has_enough.nd rfl (by first | exact Or.inl rfl | exact Or.inr rfl))) (fun _ _ _ _ _ => pts_nil) (fun _ _ _ _ _ => (pe_fld (pv 8) rfl))) (pss_one (ps_ret (by exact (pe_cmpR op_ge (pe_op op_sub (pe_callB (cr_max rfl) rfl T.b_max (by decide +kernel) (pa_cons (pv 7) pa_nil)) (pe_callB (cr_min rfl) rfl T.b_min (by decide +kernel) (pa_cons (pv 7) pa_nil))) (pv 5) (nomark _))))))))))
theorem d_Dog_is_champion {P : Program} {w : World} {K : PySem.W.Frag} {mg : Str → Option Value} {base : Heap} {c : Cs} (T : Txt K mg c)
    {fd_Dog_has_enough : FuncData} (G_Dog_has_enough : FnOk P w K mg base CX0 1 c.f_Dog_has_enough fd_Dog_has_enough P_Dog_has_enough (sp_Dog_has_enough K c)) (b_Dog_has_enough : Binds K fd_Dog_has_enough P_Dog_has_enough [])
    {cdv : Value} {A : Around} {outer : List Env} {s : Shared} {H : Hp} {E : XK} (hr : Room 1 (A.deeper (envOfC "Dog.is_champion" (defScope s_Dog_is_champion) s.heap.objs.size c.f_Dog_is_champion cdv))) :
    PSs (cxOf CX0 P w K mg base N_Dog_is_champion "Dog.is_champion" (defScope s_Dog_is_champion) c.f_Dog_is_champion cdv A outer s H E).nox (defBody s_Dog_is_champion) (t_Dog_is_champion K c) := by
  unfold t_Dog_is_champion
  exact (pss_one (ps_ret (by exact (pe_meth (pv 0) T.cl_Dog T.m_Dog_has_enough G_Dog_has_enough hr b_Dog_has_enough .nil pass0 (by exact (pa_cons (pe_globI rfl T.v_CERTIFICATE) (pa_cons pe_int (pa_cons pe_int (pa_cons pe_int (pa_cons (pe_globI rfl T.v_LONG) pa_nil))))))))))
theorem d_Dog_is_young_champion {P : Program} {w : World} {K : PySem.W.Frag} {mg : Str → Option Value} {base : Heap} {c : Cs} (T : Txt K mg c)
    {fd_Dog_has_enough : FuncData} (G_Dog_has_enough : FnOk P w K mg base CX0 1 c.f_Dog_has_enough fd_Dog_has_enough P_Dog_has_enough (sp_Dog_has_enough K c)) (b_Dog_has_enough : Binds K fd_Dog_has_enough P_Dog_has_enough [])
    {cdv : Value} {A : Around} {outer : List Env} {s : Shared} {H : Hp} {E : XK} (hr : Room 1 (A.deeper (envOfC "Dog.is_young_champion" (defScope s_Dog_is_young_champion) s.heap.objs.size c.f_Dog_is_young_champion cdv))) :
    PSs (cxOf CX0 P w K mg base N_Dog_is_young_champion "Dog.is_young_champion" (defScope s_Dog_is_young_champion) c.f_Dog_is_young_champion cdv A outer s H E).nox (defBody s_Dog_is_young_champion) (t_Dog_is_young_champion K c) := by
  unfold t_Dog_is_young_champion
  exact (pss_one (ps_ret (by exact (pe_meth (pv 0) T.cl_Dog T.m_Dog_has_enough G_Dog_has_enough hr b_Dog_has_enough .nil pass0 (by exact (pa_cons (pe_globI rfl T.v_YOUNG) (pa_cons pe_int (pa_cons pe_int (pa_cons pe_int (pa_cons pe_int pa_nil))))))))))
theorem d_Dog_is_old_champion {P : Program} {w : World} {K : PySem.W.Frag} {mg : Str → Option Value} {base : Heap} {c : Cs} (T : Txt K mg c)
    {fd_Dog_has_enough : FuncData} (G_Dog_has_enough : FnOk P w K mg base CX0 1 c.f_Dog_has_enough fd_Dog_has_enough P_Dog_has_enough (sp_Dog_has_enough K c)) (b_Dog_has_enough : Binds K fd_Dog_has_enough P_Dog_has_enough [])
    {cdv : Value} {A : Around} {outer : List Env} {s : Shared} {H : Hp} {E : XK} (hr : Room 1 (A.deeper (envOfC "Dog.is_old_champion" (defScope s_Dog_is_old_champion) s.heap.objs.size c.f_Dog_is_old_champion cdv))) :
    PSs (cxOf CX0 P w K mg base N_Dog_is_old_champion "Dog.is_old_champion" (defScope s_Dog_is_old_champion) c.f_Dog_is_old_champion cdv A outer s H E).nox (defBody s_Dog_is_old_champion) (t_Dog_is_old_champion K c) := by
  unfold t_Dog_is_old_champion
  exact (pss_one (ps_ret (by exact (pe_meth (pv 0) T.cl_Dog T.m_Dog_has_enough G_Dog_has_enough hr b_Dog_has_enough .nil pass0 (by exact (pa_cons (pe_globI rfl T.v_OLD) (pa_cons pe_int (pa_cons pe_int (pa_cons pe_int (pa_cons pe_int pa_nil))))))))))
theorem d_Dog_is_international {P : Program} {w : World} {K : PySem.W.Frag} {mg : Str → Option Value} {base : Heap} {c : Cs} (T : Txt K mg c)
    {fd_Dog_has_enough : FuncData} (G_Dog_has_enough : FnOk P w K mg base CX0 1 c.f_Dog_has_enough fd_Dog_has_enough P_Dog_has_enough (sp_Dog_has_enough K c)) (b_Dog_has_enough : Binds K fd_Dog_has_enough P_Dog_has_enough [])
    {cdv : Value} {A : Around} {outer : List Env} {s : Shared} {H : Hp} {E : XK} (hr : Room 1 (A.deeper (envOfC "Dog.is_international" (defScope s_Dog_is_international) s.heap.objs.size c.f_Dog_is_international cdv))) :
    PSs (cxOf CX0 P w K mg base N_Dog_is_international "Dog.is_international" (defScope s_Dog_is_international) c.f_Dog_is_international cdv A outer s H E).nox (defBody s_Dog_is_international) (t_Dog_is_international K c) := by
  unfold t_Dog_is_international
  exact (pss_cons (ps_if (pt_val (pe_meth (pv 0) T.cl_Dog T.m_Dog_has_enough G_Dog_has_enough hr b_Dog_has_enough .nil pass0 (by exact (pa_cons (pe_globI rfl T.v_INTERNATIONAL) (pa_cons pe_int (pa_cons pe_int (pa_cons pe_int (pa_cons (pe_globI rfl T.v_LONG) pa_nil)))))))) (pss_one (ps_ret (by exact pe_bl))) pss_nil) (pss_one (ps_ret (by exact (pe_and (pe_fld (pv 0) rfl) (pe_one (pe_meth (pv 0) T.cl_Dog T.m_Dog_has_enough G_Dog_has_enough hr b_Dog_has_enough .nil pass0 (by exact (pa_cons (pe_globI rfl T.v_INTERNATIONAL) (pa_cons pe_int (pa_cons pe_int (pa_cons pe_int (pa_cons (pe_globI rfl T.v_LONG) pa_nil)))))))))))))
theorem d_is_of_age {P : Program} {w : World} {K : PySem.W.Frag} {mg : Str → Option Value} {base : Heap} {c : Cs} (T : Txt K mg c)
    {cdv : Value} {A : Around} {outer : List Env} {s : Shared} {H : Hp} {E : XK} (hr : Room 0 (A.deeper (envOfC "is_of_age" (defScope s_is_of_age) s.heap.objs.size c.f_is_of_age cdv))) :
    PSs (cxOf CX0 P w K mg base N_is_of_age "is_of_age" (defScope s_is_of_age) c.f_is_of_age cdv A outer s H E).nox (defBody s_is_of_age) (t_is_of_age K c) := by
  unfold t_is_of_age
  exact (pss_cons (ps_asg (by exact (pe_ix ix_tup (pe_glob rfl T.g_AGES rfl) (pv 0) (fun _ _ => rfl))) (pg_tup rfl (pgs_cons (pg_name (i := 2) sc_is_of_age.nd rfl (by first | exact Or.inl rfl | exact Or.inr rfl)) (pgs_cons (pg_name (i := 3) sc_is_of_age.nd rfl (by first | exact Or.inl rfl | exact Or.inr rfl)) pgs_nil)))) (pss_one (ps_ret (by exact (pe_and (pe_cmpR op_ge (pv 1) (pv 2) (nomark _)) (pe_one (pe_or (pe_cmpR op_eq (pv 3) pe_int (nomark _)) (pe_one (pe_cmpR op_le (pv 1) (pv 3) (nomark _))))))))))
theorem d_Refusal_init {P : Program} {w : World} {K : PySem.W.Frag} {mg : Str → Option Value} {base : Heap} {c : Cs} (T : Txt K mg c)
    {cdv : Value} {A : Around} {outer : List Env} {s : Shared} {H : Hp} {E : XK} (hr : Room 0 (A.deeper (envOfC "Refusal.__init__" (defScope s_Refusal_init) s.heap.objs.size c.f_Refusal_init cdv))) :
    PSs (cxOf CX0 P w K mg base N_Refusal_init "Refusal.__init__" (defScope s_Refusal_init) c.f_Refusal_init cdv A outer s H E).nox (defBody s_Refusal_init) (t_Refusal_init K c) := by
  unfold t_Refusal_init
  exact (pss_cons (ps_expr (by exact (pe_veinit rfl T.b_ValueError T.vV (pa_cons (pv 0) (pa_cons pe_str pa_nil))))) (pss_one (ps_ost (pv 0) (pv 1))))
theorem d_refuse_if {P : Program} {w : World} {K : PySem.W.Frag} {mg : Str → Option Value} {base : Heap} {c : Cs} (T : Txt K mg c)
    {fd_Refusal_init : FuncData} (G_Refusal_init : FnOk P w K mg base CX0 1 c.f_Refusal_init fd_Refusal_init P_Refusal_init (sp_Refusal_init K c)) (b_Refusal_init : Binds K fd_Refusal_init P_Refusal_init [])
    {cdv : Value} {A : Around} {outer : List Env} {s : Shared} {H : Hp} {E : XK} (hr : Room 2 (A.deeper (envOfC "refuse_if" (defScope s_refuse_if) s.heap.objs.size c.f_refuse_if cdv))) :
    PSs (cxOf (L2.CX P w) P w K mg base N_refuse_if "refuse_if" (defScope s_refuse_if) c.f_refuse_if cdv A outer s H E) (defBody s_refuse_if) (t_refuse_if K c E) := by
  unfold t_refuse_if
  exact (pss_one (ps_if (pt_val (pv 0)) (pss_one (ps_raise rfl (takes_of rfl rfl rfl rfl) (pmk_oex T.oex T.iC T.tI G_Refusal_init hr b_Refusal_init .nil pass0 rfl T.g_Refusal (by exact (pa_cons (pv 1) pa_nil))))) pss_nil))
theorem d_is_class {P : Program} {w : World} {K : PySem.W.Frag} {mg : Str → Option Value} {base : Heap} {c : Cs} (T : Txt K mg c)
    {cdv : Value} {A : Around} {outer : List Env} {s : Shared} {H : Hp} {E : XK} (hr : Room 0 (A.deeper (envOfC "is_class" (defScope s_is_class) s.heap.objs.size c.f_is_class cdv))) :
    PSs (cxOf CX0 P w K mg base N_is_class "is_class" (defScope s_is_class) c.f_is_class cdv A outer s H E).nox (defBody s_is_class) (t_is_class K c) := by
  unfold t_is_class
  exact (pss_one (ps_ret (by exact (pe_chain op_le op_lt pe_int (pv 0) (pe_callB call_len_seq rfl T.b_len PySem.boot_len (pa_cons (pe_glob rfl T.g_AGES rfl) pa_nil))))))
theorem d_yes {P : Program} {w : World} {K : PySem.W.Frag} {mg : Str → Option Value} {base : Heap} {c : Cs} (T : Txt K mg c)
    {cdv : Value} {A : Around} {outer : List Env} {s : Shared} {H : Hp} {E : XK} (hr : Room 0 (A.deeper (envOfC "yes" (defScope s_yes) s.heap.objs.size c.f_yes cdv))) :
    PSs (cxOf CX0 P w K mg base N_yes "yes" (defScope s_yes) c.f_yes cdv A outer s H E).nox (defBody s_yes) (t_yes K c) := by
  unfold t_yes
  exact (pss_cons (ps_if (pt_val (pv 0)) (pss_one (ps_ret (by exact pe_int))) pss_nil) (pss_one (ps_ret (by exact pe_int))))
end Ds

/-! Printed by gen.py: that each def has its reading. -/
namespace Ds
open PySem PySem.Spec PyProof.Rows L2 Evl

theorem d_Show_init {P : Program} {w : World} {K : PySem.W.Frag} {mg : Str → Option Value} {base : Heap} {c : Cs} (T : Txt K mg c)
    {cdv : Value} {A : Around} {outer : List Env} {s : Shared} {H : Hp} {E : XK} (hr : Room 0 (A.deeper (envOfC "Show.__init__" (defScope s_Show_init) s.heap.objs.size c.f_Show_init cdv))) :
    PSs (cxOf CX0 P w K mg base N_Show_init "Show.__init__" (defScope s_Show_init) c.f_Show_init cdv A outer s H E).nox (defBody s_Show_init) (t_Show_init K c) := by
  unfold t_Show_init
  exact (pss_cons (ps_fld (pv 0) (by exact (pv 1)) rfl) (pss_cons (ps_fld (pv 0) (by exact (pv 2)) rfl) (pss_cons (ps_fld (pv 0) (by exact (pv 3)) rfl) (pss_cons (ps_fld (pv 0) (by exact (pv 4)) rfl) (pss_cons (ps_fld (pv 0) (by exact (pe_lst pa_nil)) rfl) (pss_cons (ps_fld (pv 0) (by exact pe_dnewK) rfl) (pss_cons (ps_fld (pv 0) (by exact pe_dnewT) rfl) (pss_one (ps_fld (pv 0) (by exact (pe_lst pa_nil)) rfl)))))))))
theorem d_Show_class_of {P : Program} {w : World} {K : PySem.W.Frag} {mg : Str → Option Value} {base : Heap} {c : Cs} (T : Txt K mg c)
    {cdv : Value} {A : Around} {outer : List Env} {s : Shared} {H : Hp} {E : XK} (hr : Room 0 (A.deeper (envOfC "Show.class_of" (defScope s_Show_class_of) s.heap.objs.size c.f_Show_class_of cdv))) :
    PSs (cxOf CX0 P w K mg base N_Show_class_of "Show.class_of" (defScope s_Show_class_of) c.f_Show_class_of cdv A outer s H E).nox (defBody s_Show_class_of) (t_Show_class_of K c) := by
  unfold t_Show_class_of
  exact (pss_cons (ps_for PassesOwn.never rfl (pi_list (pe_fld (pv 0) rfl)) (pg_tup rfl (pgs_cons (pg_name (i := 2) sc_Show_class_of.nd rfl (by first | exact Or.inl rfl | exact Or.inr rfl)) (pgs_cons (pg_name (i := 3) sc_Show_class_of.nd rfl (by first | exact Or.inl rfl | exact Or.inr rfl)) pgs_nil))) (pss_one (ps_if (pt_cmpR op_eq (pe_fld (pv 2) rfl) (pe_fld (pv 1) rfl) (nomark _)) (pss_one (ps_ret (by exact (pv 3)))) pss_nil))) (pss_one (ps_ret (by exact (pe_un un_neg pe_int)))))
theorem d_Show_grade_of {P : Program} {w : World} {K : PySem.W.Frag} {mg : Str → Option Value} {base : Heap} {c : Cs} (T : Txt K mg c)
    {cdv : Value} {A : Around} {outer : List Env} {s : Shared} {H : Hp} {E : XK} (hr : Room 0 (A.deeper (envOfC "Show.grade_of" (defScope s_Show_grade_of) s.heap.objs.size c.f_Show_grade_of cdv))) :
    PSs (cxOf CX0 P w K mg base N_Show_grade_of "Show.grade_of" (defScope s_Show_grade_of) c.f_Show_grade_of cdv A outer s H E).nox (defBody s_Show_grade_of) (t_Show_grade_of K c) := by
  unfold t_Show_grade_of
  exact (pss_one (ps_ret (by exact (pe_dget2 (hu_of hr) (pe_fld (pv 0) rfl) (pe_fld (pv 1) rfl) pe_int ⟨by rfl, by rfl, by rfl, by rfl⟩))))
theorem d_Show_placed {P : Program} {w : World} {K : PySem.W.Frag} {mg : Str → Option Value} {base : Heap} {c : Cs} (T : Txt K mg c)
    {fd_Show_grade_of : FuncData} (G_Show_grade_of : FnOk P w K mg base CX0 1 c.f_Show_grade_of fd_Show_grade_of P_Show_grade_of (sp_Show_grade_of K c)) (b_Show_grade_of : Binds K fd_Show_grade_of P_Show_grade_of [])
    {cdv : Value} {A : Around} {outer : List Env} {s : Shared} {H : Hp} {E : XK} (hr : Room 1 (A.deeper (envOfC "Show.placed" (defScope s_Show_placed) s.heap.objs.size c.f_Show_placed cdv))) :
    PSs (cxOf CX0 P w K mg base N_Show_placed "Show.placed" (defScope s_Show_placed) c.f_Show_placed cdv A outer s H E).nox (defBody s_Show_placed) (t_Show_placed K c) := by
  unfold t_Show_placed
  exact (pss_cons (ps_set (i := 4) sc_Show_placed.nd rfl (by first | exact Or.inl rfl | exact Or.inr rfl) (by exact (pe_dget2 (hu_of hr) (pe_fld (pv 0) rfl) (pe_tup (pa_cons (pv 1) (pa_cons (pv 2) pa_nil))) (pe_lst pa_nil) ⟨by rfl, by rfl, by rfl, by rfl⟩))) (pss_cons (ps_if (PW.pt (pw_or (pt_cmpR op_ge (pv 3) (pe_callB call_len_seq rfl T.b_len PySem.boot_len (pa_cons (pv 4) pa_nil)) (nomark _)) (pw_or1 (pt_cmpR op_ne (pe_meth (pv 0) T.cl_Show T.m_Show_grade_of G_Show_grade_of hr b_Show_grade_of .nil pass0 (by exact (pa_cons (pe_ix ix_list (pv 4) (pv 3) (fun _ _ => rfl)) pa_nil))) (pe_globI rfl T.v_EXCELLENT) (nomark _))))) (pss_one (ps_ret (by exact (pe_lst pa_nil)))) pss_nil) (pss_one (ps_ret (by exact (pe_lst (pa_cons (pe_ix ix_list (pv 4) (pv 3) (fun _ _ => rfl)) pa_nil)))))))
theorem d_Show_firsts {P : Program} {w : World} {K : PySem.W.Frag} {mg : Str → Option Value} {base : Heap} {c : Cs} (T : Txt K mg c)
    {fd_Show_placed : FuncData} (G_Show_placed : FnOk P w K mg base CX0 2 c.f_Show_placed fd_Show_placed P_Show_placed (sp_Show_placed K c)) (b_Show_placed : Binds K fd_Show_placed P_Show_placed [])
    {cdv : Value} {A : Around} {outer : List Env} {s : Shared} {H : Hp} {E : XK} (hr : Room 2 (A.deeper (envOfC "Show.firsts" (defScope s_Show_firsts) s.heap.objs.size c.f_Show_firsts cdv))) :
    PSs (cxOf CX0 P w K mg base N_Show_firsts "Show.firsts" (defScope s_Show_firsts) c.f_Show_firsts cdv A outer s H E).nox (defBody s_Show_firsts) (t_Show_firsts K c) := by
  unfold t_Show_firsts
  exact (pss_cons (ps_set (i := 2) sc_Show_firsts.nd rfl (by first | exact Or.inl rfl | exact Or.inr rfl) (by exact (pe_lst pa_nil))) (pss_cons (ps_for PassesOwn.never rfl (pi_tup (pe_glob rfl T.g_GROWN rfl)) (pg_name (i := 3) sc_Show_firsts.nd rfl (by first | exact Or.inl rfl | exact Or.inr rfl)) (pss_one (ps_expr (by exact (pe_bm PySem.F.plainAttrs_list PySem.F.slot_list_extend PySem.F.type_list_extend mt_extend (pv 2) (by exact (pa_cons (pe_meth (pv 0) T.cl_Show T.m_Show_placed G_Show_placed hr b_Show_placed .nil pass0 (by exact (pa_cons (pv 3) (pa_cons (pv 1) (pa_cons pe_int pa_nil))))) pa_nil))))))) (pss_one (ps_ret (by exact (pv 2))))))
theorem d_Show_holder {P : Program} {w : World} {K : PySem.W.Frag} {mg : Str → Option Value} {base : Heap} {c : Cs} (T : Txt K mg c)
    {cdv : Value} {A : Around} {outer : List Env} {s : Shared} {H : Hp} {E : XK} (hr : Room 0 (A.deeper (envOfC "Show.holder" (defScope s_Show_holder) s.heap.objs.size c.f_Show_holder cdv))) :
    PSs (cxOf CX0 P w K mg base N_Show_holder "Show.holder" (defScope s_Show_holder) c.f_Show_holder cdv A outer s H E).nox (defBody s_Show_holder) (t_Show_holder K c) := by
  unfold t_Show_holder
  exact (pss_cons (ps_for PassesOwn.never rfl (pi_list (pe_fld (pv 0) rfl)) (pg_tup rfl (pgs_cons (pg_name (i := 3) sc_Show_holder.nd rfl (by first | exact Or.inl rfl | exact Or.inr rfl)) (pgs_cons (pg_name (i := 4) sc_Show_holder.nd rfl (by first | exact Or.inl rfl | exact Or.inr rfl)) pgs_nil))) (pss_one (ps_if (PW.pt (pw_and (pt_cmpR op_eq (pv 4) (pv 1) (nomark _)) (pw_and1 (pt_cmpR op_eq (pe_fld (pv 3) rfl) (pv 2) (nomark _))))) (pss_one (ps_ret (by exact (pv 3)))) pss_nil))) (pss_one (ps_ret (by exact pe_non))))
theorem d_Show_is_given {P : Program} {w : World} {K : PySem.W.Frag} {mg : Str → Option Value} {base : Heap} {c : Cs} (T : Txt K mg c)
    {cdv : Value} {A : Around} {outer : List Env} {s : Shared} {H : Hp} {E : XK} (hr : Room 0 (A.deeper (envOfC "Show.is_given" (defScope s_Show_is_given) s.heap.objs.size c.f_Show_is_given cdv))) :
    PSs (cxOf CX0 P w K mg base N_Show_is_given "Show.is_given" (defScope s_Show_is_given) c.f_Show_is_given cdv A outer s H E).nox (defBody s_Show_is_given) (t_Show_is_given K c) := by
  unfold t_Show_is_given
  exact (pss_one (ps_ret (by exact (pe_callB (cr_any rfl) rfl T.b_any (by decide +kernel) (pa_cons (pe_lc (own := [("dog", 2), ("other", 3)]) (g := (gTup K 2 (gCons (gName 2) (gCons (gName 3) gNil)))) (tt := tYes) rfl sc_Show_is_given.nd (pi_list (pe_fld (pv 0) rfl)) (blkOk_by (own := [("dog", 2), ("other", 3)]) (N := N_Show_is_given) (sc := defScope s_Show_is_given) (by decide +kernel)) (fun _ _ _ _ _ => (pg_tup rfl (pgs_cons (pg_name (i := 2) sc_Show_is_given.nd rfl (by first | exact Or.inl rfl | exact Or.inr rfl)) (pgs_cons (pg_name (i := 3) sc_Show_is_given.nd rfl (by first | exact Or.inl rfl | exact Or.inr rfl)) pgs_nil)))) (fun _ _ _ _ _ => pts_nil) (fun _ _ _ _ _ => (pe_cmpR op_eq (pv 3) (pv 1) (nomark _)))) pa_nil)))))
theorem d_Show_may_have {P : Program} {w : World} {K : PySem.W.Frag} {mg : Str → Option Value} {base : Heap} {c : Cs} (T : Txt K mg c)
    {fd_Show_holder : FuncData} (G_Show_holder : FnOk P w K mg base CX0 1 c.f_Show_holder fd_Show_holder P_Show_holder (sp_Show_holder K c)) (b_Show_holder : Binds K fd_Show_holder P_Show_holder [])
    {fd_Show_is_given : FuncData} (G_Show_is_given : FnOk P w K mg base CX0 1 c.f_Show_is_given fd_Show_is_given P_Show_is_given (sp_Show_is_given K c)) (b_Show_is_given : Binds K fd_Show_is_given P_Show_is_given [])
    {fd_Show_bests : FuncData} (G_Show_bests : FnOk P w K mg base CX0 3 c.f_Show_bests fd_Show_bests P_Show_bests (sp_Show_bests K c)) (b_Show_bests : Binds K fd_Show_bests P_Show_bests [])
    {fd_Show_next_ones : FuncData} (G_Show_next_ones : FnOk P w K mg base CX0 4 c.f_Show_next_ones fd_Show_next_ones P_Show_next_ones (sp_Show_next_ones K c)) (b_Show_next_ones : Binds K fd_Show_next_ones P_Show_next_ones [])
    {fd_Show_firsts : FuncData} (G_Show_firsts : FnOk P w K mg base CX0 3 c.f_Show_firsts fd_Show_firsts P_Show_firsts (sp_Show_firsts K c)) (b_Show_firsts : Binds K fd_Show_firsts P_Show_firsts [])
    {cdv : Value} {A : Around} {outer : List Env} {s : Shared} {H : Hp} {E : XK} (hr : Room 4 (A.deeper (envOfC "Show.may_have" (defScope s_Show_may_have) s.heap.objs.size c.f_Show_may_have cdv))) :
    PSs (cxOf CX0 P w K mg base N_Show_may_have "Show.may_have" (defScope s_Show_may_have) c.f_Show_may_have cdv A outer s H E).nox (defBody s_Show_may_have) (t_Show_may_have K c) := by
  unfold t_Show_may_have
  exact (pss_cons (ps_if (PW.pt (pw_and (pt_cmpR op_in_seq (pv 1) (pe_tup (pa_cons (pe_globI rfl T.v_INTERNATIONAL) (pa_cons (pe_globI rfl T.v_NEXT_INTERNATIONAL) pa_nil))) rfl) (pw_and1 (pt_not (pt_val (pe_fld (pv 0) rfl)))))) (pss_one (ps_ret (by exact (pe_lst pa_nil)))) pss_nil) (pss_cons (ps_if (pt_cmpR op_in_seq (pv 1) (pe_tup (pa_cons (pe_globI rfl T.v_CERTIFICATE) (pa_cons (pe_globI rfl T.v_INTERNATIONAL) pa_nil))) rfl) (pss_cons (ps_if (pt_cmp (pc_notN (pe_meth (pv 0) T.cl_Show T.m_Show_holder G_Show_holder (hr.mono (by decide)) b_Show_holder .nil pass0 (by exact (pa_cons (pv 1) (pa_cons (pv 2) pa_nil)))))) (pss_one (ps_ret (by exact (pe_lst pa_nil)))) pss_nil) (pss_one (ps_ret (by exact (pe_meth (pv 0) T.cl_Show T.m_Show_firsts G_Show_firsts (hr.mono (by decide)) b_Show_firsts .nil pass0 (by exact (pa_cons (pv 2) pa_nil))))))) pss_nil) (pss_cons (ps_if (pt_cmpR op_in_seq (pv 1) (pe_tup (pa_cons (pe_globI rfl T.v_NEXT) (pa_cons (pe_globI rfl T.v_NEXT_INTERNATIONAL) pa_nil))) rfl) (pss_one (ps_ret (by exact (pe_meth (pv 0) T.cl_Show T.m_Show_next_ones G_Show_next_ones hr b_Show_next_ones .nil pass0 (by exact (pa_cons (pv 1) (pa_cons (pv 2) pa_nil))))))) pss_nil) (pss_cons (ps_if (PW.pt (pw_and (pt_cmpR op_eq (pv 1) (pe_globI rfl T.v_BEST) (nomark _)) (pw_and1 (pt_not (pt_val (pe_meth (pv 0) T.cl_Show T.m_Show_is_given G_Show_is_given (hr.mono (by decide)) b_Show_is_given .nil pass0 (by exact (pa_cons (pe_globI rfl T.v_BEST) pa_nil)))))))) (pss_one (ps_ret (by exact (pe_meth (pv 0) T.cl_Show T.m_Show_bests G_Show_bests (hr.mono (by decide)) b_Show_bests .nil pass0 (by exact (pa_cons (pv 2) pa_nil)))))) pss_nil) (pss_cons (ps_if (PW.pt (pw_and (pt_cmpR op_eq (pv 1) (pe_globI rfl T.v_OTHER_BEST) (nomark _)) (pw_and (pt_cmp (pc_notN (pe_meth (pv 0) T.cl_Show T.m_Show_holder G_Show_holder (hr.mono (by decide)) b_Show_holder .nil pass0 (by exact (pa_cons (pe_globI rfl T.v_BEST) (pa_cons (pe_op op_sub pe_int (pv 2)) pa_nil)))))) (pw_and1 (pt_not (pt_val (pe_meth (pv 0) T.cl_Show T.m_Show_is_given G_Show_is_given (hr.mono (by decide)) b_Show_is_given .nil pass0 (by exact (pa_cons (pe_globI rfl T.v_OTHER_BEST) pa_nil))))))))) (pss_one (ps_ret (by exact (pe_meth (pv 0) T.cl_Show T.m_Show_bests G_Show_bests (hr.mono (by decide)) b_Show_bests .nil pass0 (by exact (pa_cons (pv 2) pa_nil)))))) pss_nil) (pss_one (ps_ret (by exact (pe_lst pa_nil)))))))))
theorem d_Show_next_ones {P : Program} {w : World} {K : PySem.W.Frag} {mg : Str → Option Value} {base : Heap} {c : Cs} (T : Txt K mg c)
    {fd_Show_class_of : FuncData} (G_Show_class_of : FnOk P w K mg base CX0 1 c.f_Show_class_of fd_Show_class_of P_Show_class_of (sp_Show_class_of K c)) (b_Show_class_of : Binds K fd_Show_class_of P_Show_class_of [])
    {fd_Show_placed : FuncData} (G_Show_placed : FnOk P w K mg base CX0 2 c.f_Show_placed fd_Show_placed P_Show_placed (sp_Show_placed K c)) (b_Show_placed : Binds K fd_Show_placed P_Show_placed [])
    {fd_Show_firsts : FuncData} (G_Show_firsts : FnOk P w K mg base CX0 3 c.f_Show_firsts fd_Show_firsts P_Show_firsts (sp_Show_firsts K c)) (b_Show_firsts : Binds K fd_Show_firsts P_Show_firsts [])
    {fd_Show_holder : FuncData} (G_Show_holder : FnOk P w K mg base CX0 1 c.f_Show_holder fd_Show_holder P_Show_holder (sp_Show_holder K c)) (b_Show_holder : Binds K fd_Show_holder P_Show_holder [])
    {cdv : Value} {A : Around} {outer : List Env} {s : Shared} {H : Hp} {E : XK} (hr : Room 3 (A.deeper (envOfC "Show.next_ones" (defScope s_Show_next_ones) s.heap.objs.size c.f_Show_next_ones cdv))) :
    PSs (cxOf CX0 P w K mg base N_Show_next_ones "Show.next_ones" (defScope s_Show_next_ones) c.f_Show_next_ones cdv A outer s H E).nox (defBody s_Show_next_ones) (t_Show_next_ones K c) := by
  unfold t_Show_next_ones
  exact (pss_cons (ps_set (i := 3) sc_Show_next_ones.nd rfl (by first | exact Or.inl rfl | exact Or.inr rfl) (by exact (pe_meth (pv 0) T.cl_Show T.m_Show_holder G_Show_holder (hr.mono (by decide)) b_Show_holder .nil pass0 (by exact (pa_cons (pe_op op_sub (pv 1) pe_int) (pa_cons (pv 2) pa_nil)))))) (pss_cons (ps_if (PW.pt (pw_or (pt_cmp (pc_isN (pv 3))) (pw_or1 (pt_cmp (pc_notN (pe_meth (pv 0) T.cl_Show T.m_Show_holder G_Show_holder (hr.mono (by decide)) b_Show_holder .nil pass0 (by exact (pa_cons (pv 1) (pa_cons (pv 2) pa_nil))))))))) (pss_one (ps_ret (by exact (pe_lst pa_nil)))) pss_nil) (pss_cons (ps_setLc (i := 4) (own := [("dog", 5)]) (g := (gName 5)) (tt := (tTest (tOp rNe (tFld K (tVar 5) "number") (tFld K (tVar 3) "number")))) rfl sc_Show_next_ones.nd rfl rfl (sw_true rfl rfl rfl (by decide +kernel)) (pi_list (pe_meth (pv 0) T.cl_Show T.m_Show_firsts G_Show_firsts hr b_Show_firsts .nil pass0 (by exact (pa_cons (pv 2) pa_nil)))) (blkOk_by (own := [("dog", 5)]) (N := N_Show_next_ones) (sc := defScope s_Show_next_ones) (by decide +kernel)) (fun _ _ _ _ _ => (pg_name (i := 5) sc_Show_next_ones.nd rfl (by first | exact Or.inl rfl | exact Or.inr rfl))) (fun _ _ _ _ _ => (pts_one (pt_cmpR op_ne (pe_fld (pv 5) rfl) (pe_fld (pv 3) rfl) (nomark _)))) (fun _ _ _ _ _ => (pv 5))) (pss_one (ps_ret (by exact (pe_op op_cat (pv 4) (pe_meth (pv 0) T.cl_Show T.m_Show_placed G_Show_placed (hr.mono (by decide)) b_Show_placed .nil pass0 (by exact (pa_cons (pe_meth (pv 0) T.cl_Show T.m_Show_class_of G_Show_class_of (hr.mono (by decide)) b_Show_class_of .nil pass0 (by exact (pa_cons (pv 3) pa_nil))) (pa_cons (pv 2) (pa_cons pe_int pa_nil))))))))))))
theorem d_Show_bests {P : Program} {w : World} {K : PySem.W.Frag} {mg : Str → Option Value} {base : Heap} {c : Cs} (T : Txt K mg c)
    {fd_Show_placed : FuncData} (G_Show_placed : FnOk P w K mg base CX0 2 c.f_Show_placed fd_Show_placed P_Show_placed (sp_Show_placed K c)) (b_Show_placed : Binds K fd_Show_placed P_Show_placed [])
    {fd_Show_holder : FuncData} (G_Show_holder : FnOk P w K mg base CX0 1 c.f_Show_holder fd_Show_holder P_Show_holder (sp_Show_holder K c)) (b_Show_holder : Binds K fd_Show_holder P_Show_holder [])
    {cdv : Value} {A : Around} {outer : List Env} {s : Shared} {H : Hp} {E : XK} (hr : Room 2 (A.deeper (envOfC "Show.bests" (defScope s_Show_bests) s.heap.objs.size c.f_Show_bests cdv))) :
    PSs (cxOf CX0 P w K mg base N_Show_bests "Show.bests" (defScope s_Show_bests) c.f_Show_bests cdv A outer s H E).nox (defBody s_Show_bests) (t_Show_bests K c) := by
  unfold t_Show_bests
  exact (pss_cons (ps_set (i := 2) sc_Show_bests.nd rfl (by first | exact Or.inl rfl | exact Or.inr rfl) (by exact (pe_lst pa_nil))) (pss_cons (ps_set (i := 3) sc_Show_bests.nd rfl (by first | exact Or.inl rfl | exact Or.inr rfl) (by exact (pe_meth (pv 0) T.cl_Show T.m_Show_holder G_Show_holder (hr.mono (by decide)) b_Show_holder .nil pass0 (by exact (pa_cons (pe_globI rfl T.v_CERTIFICATE) (pa_cons (pv 1) pa_nil)))))) (pss_cons (ps_if (pt_cmp (pc_notN (pv 3))) (pss_one (ps_expr (by exact (pe_bm PySem.F.plainAttrs_list PySem.F.slot_list_append PySem.F.type_list_append mt_append (pv 2) (by exact (pa_cons (pv 3) pa_nil)))))) pss_nil) (pss_cons (ps_expr (by exact (pe_bm PySem.F.plainAttrs_list PySem.F.slot_list_extend PySem.F.type_list_extend mt_extend (pv 2) (by exact (pa_cons (pe_meth (pv 0) T.cl_Show T.m_Show_placed G_Show_placed hr b_Show_placed .nil pass0 (by exact (pa_cons (pe_globI rfl T.v_YOUNG_CLASS) (pa_cons (pv 1) (pa_cons pe_int pa_nil))))) pa_nil))))) (pss_cons (ps_expr (by exact (pe_bm PySem.F.plainAttrs_list PySem.F.slot_list_extend PySem.F.type_list_extend mt_extend (pv 2) (by exact (pa_cons (pe_meth (pv 0) T.cl_Show T.m_Show_placed G_Show_placed hr b_Show_placed .nil pass0 (by exact (pa_cons (pe_globI rfl T.v_OLD_CLASS) (pa_cons (pv 1) (pa_cons pe_int pa_nil))))) pa_nil))))) (pss_one (ps_ret (by exact (pv 2)))))))))
theorem d_Show_counts_as {P : Program} {w : World} {K : PySem.W.Frag} {mg : Str → Option Value} {base : Heap} {c : Cs} (T : Txt K mg c)
    {fd_Show_holder : FuncData} (G_Show_holder : FnOk P w K mg base CX0 1 c.f_Show_holder fd_Show_holder P_Show_holder (sp_Show_holder K c)) (b_Show_holder : Binds K fd_Show_holder P_Show_holder [])
    {fd_Dog_is_international : FuncData} (G_Dog_is_international : FnOk P w K mg base CX0 2 c.f_Dog_is_international fd_Dog_is_international P_Dog_is_international (sp_Dog_is_international K c)) (b_Dog_is_international : Binds K fd_Dog_is_international P_Dog_is_international [])
    {fd_Dog_is_champion : FuncData} (G_Dog_is_champion : FnOk P w K mg base CX0 2 c.f_Dog_is_champion fd_Dog_is_champion P_Dog_is_champion (sp_Dog_is_champion K c)) (b_Dog_is_champion : Binds K fd_Dog_is_champion P_Dog_is_champion [])
    {cdv : Value} {A : Around} {outer : List Env} {s : Shared} {H : Hp} {E : XK} (hr : Room 2 (A.deeper (envOfC "Show.counts_as" (defScope s_Show_counts_as) s.heap.objs.size c.f_Show_counts_as cdv))) :
    PSs (cxOf CX0 P w K mg base N_Show_counts_as "Show.counts_as" (defScope s_Show_counts_as) c.f_Show_counts_as cdv A outer s H E).nox (defBody s_Show_counts_as) (t_Show_counts_as K c) := by
  unfold t_Show_counts_as
  exact (pss_cons (ps_if (PW.pt (pw_and (pt_cmpR op_eq (pv 2) (pe_globI rfl T.v_NEXT) (nomark _)) (pw_and1 (pt_val (pe_meth0 (pe_meth (pv 0) T.cl_Show T.m_Show_holder G_Show_holder (hr.mono (by decide)) b_Show_holder .nil pass0 (by exact (pa_cons (pe_globI rfl T.v_CERTIFICATE) (pa_cons (pe_fld (pv 1) rfl) pa_nil)))) T.cl_Dog T.m_Dog_is_champion G_Dog_is_champion hr b_Dog_is_champion .nil pass0))))) (pss_one (ps_ret (by exact (pe_globI rfl T.v_CERTIFICATE)))) pss_nil) (pss_cons (ps_if (PW.pt (pw_and (pt_cmpR op_eq (pv 2) (pe_globI rfl T.v_NEXT_INTERNATIONAL) (nomark _)) (pw_and1 (pt_val (pe_meth0 (pe_meth (pv 0) T.cl_Show T.m_Show_holder G_Show_holder (hr.mono (by decide)) b_Show_holder .nil pass0 (by exact (pa_cons (pe_globI rfl T.v_INTERNATIONAL) (pa_cons (pe_fld (pv 1) rfl) pa_nil)))) T.cl_Dog T.m_Dog_is_international G_Dog_is_international hr b_Dog_is_international .nil pass0))))) (pss_one (ps_ret (by exact (pe_globI rfl T.v_INTERNATIONAL)))) pss_nil) (pss_one (ps_ret (by exact (pv 2))))))
theorem d_Show_kept_awards {P : Program} {w : World} {K : PySem.W.Frag} {mg : Str → Option Value} {base : Heap} {c : Cs} (T : Txt K mg c)
    {fd_Show_counts_as : FuncData} (G_Show_counts_as : FnOk P w K mg base CX0 3 c.f_Show_counts_as fd_Show_counts_as P_Show_counts_as (sp_Show_counts_as K c)) (b_Show_counts_as : Binds K fd_Show_counts_as P_Show_counts_as [])
    {fd_Show_placed : FuncData} (G_Show_placed : FnOk P w K mg base CX0 2 c.f_Show_placed fd_Show_placed P_Show_placed (sp_Show_placed K c)) (b_Show_placed : Binds K fd_Show_placed P_Show_placed [])
    {cdv : Value} {A : Around} {outer : List Env} {s : Shared} {H : Hp} {E : XK} (hr : Room 3 (A.deeper (envOfC "Show.kept_awards" (defScope s_Show_kept_awards) s.heap.objs.size c.f_Show_kept_awards cdv))) :
    PSs (cxOf CX0 P w K mg base N_Show_kept_awards "Show.kept_awards" (defScope s_Show_kept_awards) c.f_Show_kept_awards cdv A outer s H E).nox (defBody s_Show_kept_awards) (t_Show_kept_awards K c) := by
  unfold t_Show_kept_awards
  exact (pss_cons (ps_set (i := 1) sc_Show_kept_awards.nd rfl (by first | exact Or.inl rfl | exact Or.inr rfl) (by exact (pe_lst pa_nil))) (pss_cons (ps_for PassesOwn.never rfl (pi_tup (pe_tup (pa_cons pe_int (pa_cons pe_int pa_nil)))) (pg_name (i := 2) sc_Show_kept_awards.nd rfl (by first | exact Or.inl rfl | exact Or.inr rfl)) (pss_cons (ps_for PassesOwn.never rfl (pi_list (pe_meth (pv 0) T.cl_Show T.m_Show_placed G_Show_placed (hr.mono (by decide)) b_Show_placed .nil pass0 (by exact (pa_cons (pe_globI rfl T.v_YOUNG_CLASS) (pa_cons (pv 2) (pa_cons pe_int pa_nil)))))) (pg_name (i := 3) sc_Show_kept_awards.nd rfl (by first | exact Or.inl rfl | exact Or.inr rfl)) (pss_one (ps_expr (by exact (pe_bm PySem.F.plainAttrs_list PySem.F.slot_list_append PySem.F.type_list_append mt_append (pv 1) (by exact (pa_cons (pe_tup (pa_cons (pv 3) (pa_cons (pe_globI rfl T.v_YOUNG) pa_nil))) pa_nil))))))) (pss_one (ps_for PassesOwn.never rfl (pi_list (pe_meth (pv 0) T.cl_Show T.m_Show_placed G_Show_placed (hr.mono (by decide)) b_Show_placed .nil pass0 (by exact (pa_cons (pe_globI rfl T.v_OLD_CLASS) (pa_cons (pv 2) (pa_cons pe_int pa_nil)))))) (pg_name (i := 3) sc_Show_kept_awards.nd rfl (by first | exact Or.inl rfl | exact Or.inr rfl)) (pss_one (ps_expr (by exact (pe_bm PySem.F.plainAttrs_list PySem.F.slot_list_append PySem.F.type_list_append mt_append (pv 1) (by exact (pa_cons (pe_tup (pa_cons (pv 3) (pa_cons (pe_globI rfl T.v_OLD) pa_nil))) pa_nil)))))))))) (pss_cons (ps_for PassesOwn.never rfl (pi_list (pe_fld (pv 0) rfl)) (pg_tup rfl (pgs_cons (pg_name (i := 3) sc_Show_kept_awards.nd rfl (by first | exact Or.inl rfl | exact Or.inr rfl)) (pgs_cons (pg_name (i := 4) sc_Show_kept_awards.nd rfl (by first | exact Or.inl rfl | exact Or.inr rfl)) pgs_nil))) (pss_one (ps_expr (by exact (pe_bm PySem.F.plainAttrs_list PySem.F.slot_list_append PySem.F.type_list_append mt_append (pv 1) (by exact (pa_cons (pe_tup (pa_cons (pv 3) (pa_cons (pe_meth (pv 0) T.cl_Show T.m_Show_counts_as G_Show_counts_as hr b_Show_counts_as .nil pass0 (by exact (pa_cons (pv 3) (pa_cons (pv 4) pa_nil)))) pa_nil))) pa_nil))))))) (pss_one (ps_ret (by exact (pv 1)))))))
end Ds

/-! Printed by gen.py: that each def has its reading. -/
namespace Ds
open PySem PySem.Spec PyProof.Rows L2 Evl

theorem d_Book_init {P : Program} {w : World} {K : PySem.W.Frag} {mg : Str → Option Value} {base : Heap} {c : Cs} (T : Txt K mg c)
    {cdv : Value} {A : Around} {outer : List Env} {s : Shared} {H : Hp} {E : XK} (hr : Room 0 (A.deeper (envOfC "Book.__init__" (defScope s_Book_init) s.heap.objs.size c.f_Book_init cdv))) :
    PSs (cxOf CX0 P w K mg base N_Book_init "Book.__init__" (defScope s_Book_init) c.f_Book_init cdv A outer s H E).nox (defBody s_Book_init) (t_Book_init K c) := by
  unfold t_Book_init
  exact (pss_cons (ps_fld (pv 0) (by exact (pe_lst pa_nil)) rfl) (pss_cons (ps_fld (pv 0) (by exact pe_non) rfl) (pss_one (ps_fld (pv 0) (by exact pe_int) rfl))))
theorem d_Book_has_dog {P : Program} {w : World} {K : PySem.W.Frag} {mg : Str → Option Value} {base : Heap} {c : Cs} (T : Txt K mg c)
    {cdv : Value} {A : Around} {outer : List Env} {s : Shared} {H : Hp} {E : XK} (hr : Room 0 (A.deeper (envOfC "Book.has_dog" (defScope s_Book_has_dog) s.heap.objs.size c.f_Book_has_dog cdv))) :
    PSs (cxOf CX0 P w K mg base N_Book_has_dog "Book.has_dog" (defScope s_Book_has_dog) c.f_Book_has_dog cdv A outer s H E).nox (defBody s_Book_has_dog) (t_Book_has_dog K c) := by
  unfold t_Book_has_dog
  exact (pss_one (ps_ret (by exact (pe_chain op_le op_lt pe_int (pv 1) (pe_callB call_len_seq rfl T.b_len PySem.boot_len (pa_cons (pe_fld (pv 0) rfl) pa_nil))))))
theorem d_Book_show_on {P : Program} {w : World} {K : PySem.W.Frag} {mg : Str → Option Value} {base : Heap} {c : Cs} (T : Txt K mg c)
    {fd_refuse_if : FuncData} (G_refuse_if : FnOk P w K mg base (L2.CX P w) 3 c.f_refuse_if fd_refuse_if P_refuse_if (sp_refuse_if K c)) (b_refuse_if : Binds K fd_refuse_if P_refuse_if [])
    {cdv : Value} {A : Around} {outer : List Env} {s : Shared} {H : Hp} {E : XK} (hr : Room 3 (A.deeper (envOfC "Book.show_on" (defScope s_Book_show_on) s.heap.objs.size c.f_Book_show_on cdv))) :
    PSs (cxOf (L2.CX P w) P w K mg base N_Book_show_on "Book.show_on" (defScope s_Book_show_on) c.f_Book_show_on cdv A outer s H E) (defBody s_Book_show_on) (t_Book_show_on K c E) := by
  unfold t_Book_show_on
  exact (pss_cons (ps_expr (by exact (pe_call G_refuse_if hr rfl T.g_refuse_if T.k_refuse_if b_refuse_if .nil (passes_call (W := fun cls d _ H => E cls d H) (takes_of rfl rfl rfl rfl) (fun _ _ _ _ h => h)) (by exact (pa_cons (pe_cmp (pc_isN (pe_fld (pv 0) rfl))) (pa_cons (pe_un un_neg pe_int) pa_nil)))))) (pss_one (ps_ret (by exact (pe_fld (pv 0) rfl)))))
theorem d_Book_add_dog {P : Program} {w : World} {K : PySem.W.Frag} {mg : Str → Option Value} {base : Heap} {c : Cs} (T : Txt K mg c)
    {fd_Dog_init : FuncData} (G_Dog_init : FnOk P w K mg base CX0 1 c.f_Dog_init fd_Dog_init P_Dog_init (sp_Dog_init K c)) (b_Dog_init : Binds K fd_Dog_init P_Dog_init [])
    {fd_refuse_if : FuncData} (G_refuse_if : FnOk P w K mg base (L2.CX P w) 3 c.f_refuse_if fd_refuse_if P_refuse_if (sp_refuse_if K c)) (b_refuse_if : Binds K fd_refuse_if P_refuse_if [])
    {cdv : Value} {A : Around} {outer : List Env} {s : Shared} {H : Hp} {E : XK} (hr : Room 3 (A.deeper (envOfC "Book.add_dog" (defScope s_Book_add_dog) s.heap.objs.size c.f_Book_add_dog cdv))) :
    PSs (cxOf (L2.CX P w) P w K mg base N_Book_add_dog "Book.add_dog" (defScope s_Book_add_dog) c.f_Book_add_dog cdv A outer s H E) (defBody s_Book_add_dog) (t_Book_add_dog K c E) := by
  unfold t_Book_add_dog
  exact (pss_cons (ps_asg (by exact (pv 1)) (pg_unl rfl (pgs_cons (pg_name (i := 2) sc_Book_add_dog.nd rfl (by first | exact Or.inl rfl | exact Or.inr rfl)) (pgs_cons (pg_name (i := 3) sc_Book_add_dog.nd rfl (by first | exact Or.inl rfl | exact Or.inr rfl)) (pgs_cons (pg_name (i := 4) sc_Book_add_dog.nd rfl (by first | exact Or.inl rfl | exact Or.inr rfl)) pgs_nil))))) (pss_cons (ps_expr (by exact (pe_call G_refuse_if hr rfl T.g_refuse_if T.k_refuse_if b_refuse_if .nil (passes_call (W := fun cls d _ H => E cls d H) (takes_of rfl rfl rfl rfl) (fun _ _ _ _ h => h)) (by exact (pa_cons (pe_or (pe_cmpR op_notIn_seq (pv 2) (pe_tup (pa_cons pe_int (pa_cons pe_int pa_nil))) rfl) (pe_or (pe_cmpR op_notIn_seq (pv 4) (pe_tup (pa_cons pe_int (pa_cons pe_int pa_nil))) rfl) (pe_one (pe_not (pe_chain op_le op_le pe_int (pv 3) pe_int))))) (pa_cons (pe_un un_neg pe_int) pa_nil)))))) (pss_cons (ps_expr (by exact (pe_call G_refuse_if hr rfl T.g_refuse_if T.k_refuse_if b_refuse_if .nil (passes_call (W := fun cls d _ H => E cls d H) (takes_of rfl rfl rfl rfl) (fun _ _ _ _ h => h)) (by exact (pa_cons (pe_cmpR op_ge (pe_callB call_len_seq rfl T.b_len PySem.boot_len (pa_cons (pe_fld (pv 0) rfl) pa_nil)) (pe_globI rfl T.v_MOST_DOGS) (nomark _)) (pa_cons (pe_un un_neg pe_int) pa_nil)))))) (pss_cons (ps_expr (by exact (pe_bm PySem.F.plainAttrs_list PySem.F.slot_list_append PySem.F.type_list_append mt_append (pe_fld (pv 0) rfl) (by exact (pa_cons (pe_make T.mk_Dog G_Dog_init (hr.mono (by decide)) rfl T.g_Dog b_Dog_init .nil pass0 (by exact (pa_cons (pe_callB call_len_seq rfl T.b_len PySem.boot_len (pa_cons (pe_fld (pv 0) rfl) pa_nil)) (pa_cons (pv 2) (pa_cons (pv 3) (pa_cons (pe_cmpR op_eq (pv 4) pe_int (nomark _)) pa_nil)))))) pa_nil))))) (pss_one (ps_ret (by exact (pe_lst (pa_cons (pe_op op_sub (pe_callB call_len_seq rfl T.b_len PySem.boot_len (pa_cons (pe_fld (pv 0) rfl) pa_nil)) pe_int) pa_nil)))))))))
theorem d_Book_begin_show {P : Program} {w : World} {K : PySem.W.Frag} {mg : Str → Option Value} {base : Heap} {c : Cs} (T : Txt K mg c)
    {fd_Show_init : FuncData} (G_Show_init : FnOk P w K mg base CX0 1 c.f_Show_init fd_Show_init P_Show_init (sp_Show_init K c)) (b_Show_init : Binds K fd_Show_init P_Show_init [])
    {fd_refuse_if : FuncData} (G_refuse_if : FnOk P w K mg base (L2.CX P w) 3 c.f_refuse_if fd_refuse_if P_refuse_if (sp_refuse_if K c)) (b_refuse_if : Binds K fd_refuse_if P_refuse_if [])
    {cdv : Value} {A : Around} {outer : List Env} {s : Shared} {H : Hp} {E : XK} (hr : Room 3 (A.deeper (envOfC "Book.begin_show" (defScope s_Book_begin_show) s.heap.objs.size c.f_Book_begin_show cdv))) :
    PSs (cxOf (L2.CX P w) P w K mg base N_Book_begin_show "Book.begin_show" (defScope s_Book_begin_show) c.f_Book_begin_show cdv A outer s H E) (defBody s_Book_begin_show) (t_Book_begin_show K c E) := by
  unfold t_Book_begin_show
  exact (pss_cons (ps_asg (by exact (pv 1)) (pg_unl rfl (pgs_cons (pg_name (i := 3) sc_Book_begin_show.nd rfl (by first | exact Or.inl rfl | exact Or.inr rfl)) (pgs_cons (pg_name (i := 4) sc_Book_begin_show.nd rfl (by first | exact Or.inl rfl | exact Or.inr rfl)) (pgs_cons (pg_name (i := 5) sc_Book_begin_show.nd rfl (by first | exact Or.inl rfl | exact Or.inr rfl)) (pgs_cons (pg_name (i := 6) sc_Book_begin_show.nd rfl (by first | exact Or.inl rfl | exact Or.inr rfl)) pgs_nil)))))) (pss_cons (ps_set (i := 2) sc_Book_begin_show.nd rfl (by first | exact Or.inl rfl | exact Or.inr rfl) (by exact (pe_or (pe_not (pe_chain op_le op_le pe_int (pv 3) pe_int)) (pe_or (pe_not (pe_chain op_le op_le pe_int (pv 4) pe_int)) (pe_one (pe_not (pe_chain op_le op_le pe_int (pv 5) pe_int))))))) (pss_cons (ps_expr (by exact (pe_call G_refuse_if hr rfl T.g_refuse_if T.k_refuse_if b_refuse_if .nil (passes_call (W := fun cls d _ H => E cls d H) (takes_of rfl rfl rfl rfl) (fun _ _ _ _ h => h)) (by exact (pa_cons (pe_or (pv 2) (pe_one (pe_cmpR op_notIn_seq (pv 6) (pe_tup (pa_cons pe_int (pa_cons pe_int pa_nil))) rfl))) (pa_cons (pe_un un_neg pe_int) pa_nil)))))) (pss_cons (ps_expr (by exact (pe_call G_refuse_if hr rfl T.g_refuse_if T.k_refuse_if b_refuse_if .nil (passes_call (W := fun cls d _ H => E cls d H) (takes_of rfl rfl rfl rfl) (fun _ _ _ _ h => h)) (by exact (pa_cons (pe_cmp (pc_notN (pe_fld (pv 0) rfl))) (pa_cons (pe_un un_neg pe_int) pa_nil)))))) (pss_cons (ps_expr (by exact (pe_call G_refuse_if hr rfl T.g_refuse_if T.k_refuse_if b_refuse_if .nil (passes_call (W := fun cls d _ H => E cls d H) (takes_of rfl rfl rfl rfl) (fun _ _ _ _ h => h)) (by exact (pa_cons (pe_cmpR op_lt (pv 3) (pe_fld (pv 0) rfl) (nomark _)) (pa_cons (pe_un un_neg pe_int) pa_nil)))))) (pss_cons (ps_fld (pv 0) (by exact (pe_make T.mk_Show G_Show_init (hr.mono (by decide)) rfl T.g_Show b_Show_init .nil pass0 (by exact (pa_cons (pv 3) (pa_cons (pv 4) (pa_cons (pv 5) (pa_cons (pe_cmpR op_eq (pv 6) pe_int (nomark _)) pa_nil))))))) rfl) (pss_cons (ps_fld (pv 0) (by exact (pv 3)) rfl) (pss_one (ps_ret (by exact (pe_lst (pa_cons pe_int pa_nil))))))))))))
theorem d_Book_enter {P : Program} {w : World} {K : PySem.W.Frag} {mg : Str → Option Value} {base : Heap} {c : Cs} (T : Txt K mg c)
    {fd_Dog_is_champion : FuncData} (G_Dog_is_champion : FnOk P w K mg base CX0 2 c.f_Dog_is_champion fd_Dog_is_champion P_Dog_is_champion (sp_Dog_is_champion K c)) (b_Dog_is_champion : Binds K fd_Dog_is_champion P_Dog_is_champion [])
    {fd_Dog_is_international : FuncData} (G_Dog_is_international : FnOk P w K mg base CX0 2 c.f_Dog_is_international fd_Dog_is_international P_Dog_is_international (sp_Dog_is_international K c)) (b_Dog_is_international : Binds K fd_Dog_is_international P_Dog_is_international [])
    {fd_refuse_if : FuncData} (G_refuse_if : FnOk P w K mg base (L2.CX P w) 3 c.f_refuse_if fd_refuse_if P_refuse_if (sp_refuse_if K c)) (b_refuse_if : Binds K fd_refuse_if P_refuse_if [])
    {fd_is_of_age : FuncData} (G_is_of_age : FnOk P w K mg base CX0 1 c.f_is_of_age fd_is_of_age P_is_of_age (sp_is_of_age K c)) (b_is_of_age : Binds K fd_is_of_age P_is_of_age [])
    {fd_Show_class_of : FuncData} (G_Show_class_of : FnOk P w K mg base CX0 1 c.f_Show_class_of fd_Show_class_of P_Show_class_of (sp_Show_class_of K c)) (b_Show_class_of : Binds K fd_Show_class_of P_Show_class_of [])
    {fd_Book_show_on : FuncData} (G_Book_show_on : FnOk P w K mg base (L2.CX P w) 4 c.f_Book_show_on fd_Book_show_on P_Book_show_on (sp_Book_show_on K c)) (b_Book_show_on : Binds K fd_Book_show_on P_Book_show_on [])
    {fd_Book_has_dog : FuncData} (G_Book_has_dog : FnOk P w K mg base CX0 1 c.f_Book_has_dog fd_Book_has_dog P_Book_has_dog (sp_Book_has_dog K c)) (b_Book_has_dog : Binds K fd_Book_has_dog P_Book_has_dog [])
    {fd_is_class : FuncData} (G_is_class : FnOk P w K mg base CX0 1 c.f_is_class fd_is_class P_is_class (sp_is_class K c)) (b_is_class : Binds K fd_is_class P_is_class [])
    {cdv : Value} {A : Around} {outer : List Env} {s : Shared} {H : Hp} {E : XK} (hr : Room 4 (A.deeper (envOfC "Book.enter" (defScope s_Book_enter) s.heap.objs.size c.f_Book_enter cdv))) :
    PSs (cxOf (L2.CX P w) P w K mg base N_Book_enter "Book.enter" (defScope s_Book_enter) c.f_Book_enter cdv A outer s H E) (defBody s_Book_enter) (t_Book_enter K c E) := by
  unfold t_Book_enter
  exact (pss_cons (ps_expr (by exact (pe_call G_refuse_if (hr.mono (by decide)) rfl T.g_refuse_if T.k_refuse_if b_refuse_if .nil (passes_call (W := fun cls d _ H => E cls d H) (takes_of rfl rfl rfl rfl) (fun _ _ _ _ h => h)) (by exact (pa_cons (pe_or (pe_not (pe_meth (pv 0) T.cl_Book T.m_Book_has_dog G_Book_has_dog (hr.mono (by decide)) b_Book_has_dog .nil pass0 (by exact (pa_cons (pv 1) pa_nil)))) (pe_one (pe_not (pe_call G_is_class (hr.mono (by decide)) rfl T.g_is_class T.k_is_class b_is_class .nil pass0 (by exact (pa_cons (pv 2) pa_nil)))))) (pa_cons (pe_un un_neg pe_int) pa_nil)))))) (pss_cons (ps_set (i := 3) sc_Book_enter.nd rfl (by first | exact Or.inl rfl | exact Or.inr rfl) (by exact (pe_meth0 (pv 0) T.cl_Book T.m_Book_show_on G_Book_show_on hr b_Book_show_on .nil (passes_call (W := fun cls d _ H => E cls d H) (takes_of rfl rfl rfl rfl) (fun _ _ _ _ h => h))))) (pss_cons (ps_set (i := 4) sc_Book_enter.nd rfl (by first | exact Or.inl rfl | exact Or.inr rfl) (by exact (pe_ix ix_list (pe_fld (pv 0) rfl) (pv 1) (fun _ _ => rfl)))) (pss_cons (ps_expr (by exact (pe_call G_refuse_if (hr.mono (by decide)) rfl T.g_refuse_if T.k_refuse_if b_refuse_if .nil (passes_call (W := fun cls d _ H => E cls d H) (takes_of rfl rfl rfl rfl) (fun _ _ _ _ h => h)) (by exact (pa_cons (pe_or (pe_cmpR op_ge (pe_meth (pv 3) T.cl_Show T.m_Show_class_of G_Show_class_of (hr.mono (by decide)) b_Show_class_of .nil pass0 (by exact (pa_cons (pv 4) pa_nil))) pe_int (nomark _)) (pe_one (pe_cmpR op_gt (pe_callB call_len_dT rfl T.b_len PySem.boot_len (pa_cons (pe_fld (pv 3) rfl) pa_nil)) pe_int (nomark _)))) (pa_cons (pe_un un_neg pe_int) pa_nil)))))) (pss_cons (ps_expr (by exact (pe_call G_refuse_if (hr.mono (by decide)) rfl T.g_refuse_if T.k_refuse_if b_refuse_if .nil (passes_call (W := fun cls d _ H => E cls d H) (takes_of rfl rfl rfl rfl) (fun _ _ _ _ h => h)) (by exact (pa_cons (pe_or (pe_cmpR op_gt (pe_fld (pv 4) rfl) (pe_fld (pv 3) rfl) (nomark _)) (pe_one (pe_not (pe_call G_is_of_age (hr.mono (by decide)) rfl T.g_is_of_age T.k_is_of_age b_is_of_age .nil pass0 (by exact (pa_cons (pv 2) (pa_cons (pe_op op_sub (pe_fld (pv 3) rfl) (pe_fld (pv 4) rfl)) pa_nil))))))) (pa_cons (pe_un un_neg pe_int) pa_nil)))))) (pss_cons (ps_expr (by exact (pe_call G_refuse_if (hr.mono (by decide)) rfl T.g_refuse_if T.k_refuse_if b_refuse_if .nil (passes_call (W := fun cls d _ H => E cls d H) (takes_of rfl rfl rfl rfl) (fun _ _ _ _ h => h)) (by exact (pa_cons (pe_and (pe_cmpR op_eq (pv 2) (pe_globI rfl T.v_WORKING) (nomark _)) (pe_one (pe_not (pe_fld (pv 4) rfl)))) (pa_cons (pe_un un_neg pe_int) pa_nil)))))) (pss_cons (ps_expr (by exact (pe_call G_refuse_if (hr.mono (by decide)) rfl T.g_refuse_if T.k_refuse_if b_refuse_if .nil (passes_call (W := fun cls d _ H => E cls d H) (takes_of rfl rfl rfl rfl) (fun _ _ _ _ h => h)) (by exact (pa_cons (pe_and (pe_cmpR op_eq (pv 2) (pe_globI rfl T.v_CHAMPIONS) (nomark _)) (pe_one (pe_not (pe_or (pe_meth0 (pv 4) T.cl_Dog T.m_Dog_is_champion G_Dog_is_champion (hr.mono (by decide)) b_Dog_is_champion .nil pass0) (pe_one (pe_meth0 (pv 4) T.cl_Dog T.m_Dog_is_international G_Dog_is_international (hr.mono (by decide)) b_Dog_is_international .nil pass0)))))) (pa_cons (pe_un un_neg pe_int) pa_nil)))))) (pss_cons (ps_expr (by exact (pe_bm PySem.F.plainAttrs_list PySem.F.slot_list_append PySem.F.type_list_append mt_append (pe_fld (pv 3) rfl) (by exact (pa_cons (pe_tup (pa_cons (pv 4) (pa_cons (pv 2) pa_nil))) pa_nil))))) (pss_one (ps_ret (by exact (pe_lst (pa_cons (pe_op op_sub (pe_callB call_len_seq rfl T.b_len PySem.boot_len (pa_cons (pe_fld (pv 3) rfl) pa_nil)) pe_int) pa_nil)))))))))))))
theorem d_Book_grade {P : Program} {w : World} {K : PySem.W.Frag} {mg : Str → Option Value} {base : Heap} {c : Cs} (T : Txt K mg c)
    {fd_refuse_if : FuncData} (G_refuse_if : FnOk P w K mg base (L2.CX P w) 3 c.f_refuse_if fd_refuse_if P_refuse_if (sp_refuse_if K c)) (b_refuse_if : Binds K fd_refuse_if P_refuse_if [])
    {fd_Show_class_of : FuncData} (G_Show_class_of : FnOk P w K mg base CX0 1 c.f_Show_class_of fd_Show_class_of P_Show_class_of (sp_Show_class_of K c)) (b_Show_class_of : Binds K fd_Show_class_of P_Show_class_of [])
    {fd_Book_show_on : FuncData} (G_Book_show_on : FnOk P w K mg base (L2.CX P w) 4 c.f_Book_show_on fd_Book_show_on P_Book_show_on (sp_Book_show_on K c)) (b_Book_show_on : Binds K fd_Book_show_on P_Book_show_on [])
    {fd_Book_has_dog : FuncData} (G_Book_has_dog : FnOk P w K mg base CX0 1 c.f_Book_has_dog fd_Book_has_dog P_Book_has_dog (sp_Book_has_dog K c)) (b_Book_has_dog : Binds K fd_Book_has_dog P_Book_has_dog [])
    {cdv : Value} {A : Around} {outer : List Env} {s : Shared} {H : Hp} {E : XK} (hr : Room 4 (A.deeper (envOfC "Book.grade" (defScope s_Book_grade) s.heap.objs.size c.f_Book_grade cdv))) :
    PSs (cxOf (L2.CX P w) P w K mg base N_Book_grade "Book.grade" (defScope s_Book_grade) c.f_Book_grade cdv A outer s H E) (defBody s_Book_grade) (t_Book_grade K c E) := by
  unfold t_Book_grade
  exact (pss_cons (ps_expr (by exact (pe_call G_refuse_if (hr.mono (by decide)) rfl T.g_refuse_if T.k_refuse_if b_refuse_if .nil (passes_call (W := fun cls d _ H => E cls d H) (takes_of rfl rfl rfl rfl) (fun _ _ _ _ h => h)) (by exact (pa_cons (pe_or (pe_not (pe_meth (pv 0) T.cl_Book T.m_Book_has_dog G_Book_has_dog (hr.mono (by decide)) b_Book_has_dog .nil pass0 (by exact (pa_cons (pv 1) pa_nil)))) (pe_one (pe_not (pe_chain op_le op_le pe_int (pv 2) pe_int)))) (pa_cons (pe_un un_neg pe_int) pa_nil)))))) (pss_cons (ps_set (i := 3) sc_Book_grade.nd rfl (by first | exact Or.inl rfl | exact Or.inr rfl) (by exact (pe_meth0 (pv 0) T.cl_Book T.m_Book_show_on G_Book_show_on hr b_Book_show_on .nil (passes_call (W := fun cls d _ H => E cls d H) (takes_of rfl rfl rfl rfl) (fun _ _ _ _ h => h))))) (pss_cons (ps_expr (by exact (pe_call G_refuse_if (hr.mono (by decide)) rfl T.g_refuse_if T.k_refuse_if b_refuse_if .nil (passes_call (W := fun cls d _ H => E cls d H) (takes_of rfl rfl rfl rfl) (fun _ _ _ _ h => h)) (by exact (pa_cons (pe_cmpR op_lt (pe_meth (pv 3) T.cl_Show T.m_Show_class_of G_Show_class_of (hr.mono (by decide)) b_Show_class_of .nil pass0 (by exact (pa_cons (pe_ix ix_list (pe_fld (pv 0) rfl) (pv 1) (fun _ _ => rfl)) pa_nil))) pe_int (nomark _)) (pa_cons (pe_un un_neg pe_int) pa_nil)))))) (pss_cons (ps_expr (by exact (pe_call G_refuse_if (hr.mono (by decide)) rfl T.g_refuse_if T.k_refuse_if b_refuse_if .nil (passes_call (W := fun cls d _ H => E cls d H) (takes_of rfl rfl rfl rfl) (fun _ _ _ _ h => h)) (by exact (pa_cons (pe_cmpR op_gt (pe_callB call_len_dT rfl T.b_len PySem.boot_len (pa_cons (pe_fld (pv 3) rfl) pa_nil)) pe_int (nomark _)) (pa_cons (pe_un un_neg pe_int) pa_nil)))))) (pss_cons (ps_dput (hu_of hr) (pe_fld (pv 3) rfl) (pv 1) (pv 2) rfl) (pss_one (ps_ret (by exact (pe_lst (pa_cons pe_int pa_nil))))))))))
theorem d_Book_row {P : Program} {w : World} {K : PySem.W.Frag} {mg : Str → Option Value} {base : Heap} {c : Cs} (T : Txt K mg c)
    {fd_refuse_if : FuncData} (G_refuse_if : FnOk P w K mg base (L2.CX P w) 3 c.f_refuse_if fd_refuse_if P_refuse_if (sp_refuse_if K c)) (b_refuse_if : Binds K fd_refuse_if P_refuse_if [])
    {fd_Show_class_of : FuncData} (G_Show_class_of : FnOk P w K mg base CX0 1 c.f_Show_class_of fd_Show_class_of P_Show_class_of (sp_Show_class_of K c)) (b_Show_class_of : Binds K fd_Show_class_of P_Show_class_of [])
    {fd_Show_grade_of : FuncData} (G_Show_grade_of : FnOk P w K mg base CX0 1 c.f_Show_grade_of fd_Show_grade_of P_Show_grade_of (sp_Show_grade_of K c)) (b_Show_grade_of : Binds K fd_Show_grade_of P_Show_grade_of [])
    {fd_Book_show_on : FuncData} (G_Book_show_on : FnOk P w K mg base (L2.CX P w) 4 c.f_Book_show_on fd_Book_show_on P_Book_show_on (sp_Book_show_on K c)) (b_Book_show_on : Binds K fd_Book_show_on P_Book_show_on [])
    {fd_Book_has_dog : FuncData} (G_Book_has_dog : FnOk P w K mg base CX0 1 c.f_Book_has_dog fd_Book_has_dog P_Book_has_dog (sp_Book_has_dog K c)) (b_Book_has_dog : Binds K fd_Book_has_dog P_Book_has_dog [])
    {fd_is_class : FuncData} (G_is_class : FnOk P w K mg base CX0 1 c.f_is_class fd_is_class P_is_class (sp_is_class K c)) (b_is_class : Binds K fd_is_class P_is_class [])
    {cdv : Value} {A : Around} {outer : List Env} {s : Shared} {H : Hp} {E : XK} (hr : Room 4 (A.deeper (envOfC "Book.row" (defScope s_Book_row) s.heap.objs.size c.f_Book_row cdv))) :
    PSs (cxOf (L2.CX P w) P w K mg base N_Book_row "Book.row" (defScope s_Book_row) c.f_Book_row cdv A outer s H E) (defBody s_Book_row) (t_Book_row K c E) := by
  unfold t_Book_row
  exact (pss_cons (ps_set (i := 4) sc_Book_row.nd rfl (by first | exact Or.inl rfl | exact Or.inr rfl) (by exact (pe_or (pe_not (pe_call G_is_class (hr.mono (by decide)) rfl T.g_is_class T.k_is_class b_is_class .nil pass0 (by exact (pa_cons (pv 1) pa_nil)))) (pe_or (pe_cmpR op_notIn_seq (pv 2) (pe_tup (pa_cons pe_int (pa_cons pe_int pa_nil))) rfl) (pe_one (pe_not (pe_chain op_le op_le pe_int (pe_callB call_len_seq rfl T.b_len PySem.boot_len (pa_cons (pv 3) pa_nil)) (pe_globI rfl T.v_MOST_ROW)))))))) (pss_cons (ps_expr (by exact (pe_call G_refuse_if (hr.mono (by decide)) rfl T.g_refuse_if T.k_refuse_if b_refuse_if .nil (passes_call (W := fun cls d _ H => E cls d H) (takes_of rfl rfl rfl rfl) (fun _ _ _ _ h => h)) (by exact (pa_cons (pe_or (pv 4) (pe_one (pe_not (pe_callB (cr_all rfl) rfl T.b_all (by decide +kernel) (pa_cons (pe_lc (own := [("number", 10)]) (g := (gName 10)) (tt := tYes) rfl sc_Book_row.nd (pi_list (pv 3)) (blkOk_by (own := [("number", 10)]) (N := N_Book_row) (sc := defScope s_Book_row) (by decide +kernel)) (fun _ _ _ _ _ => (pg_name (i := 10) sc_Book_row.nd rfl (by first | exact Or.inl rfl | exact Or.inr rfl))) (fun _ _ _ _ _ => pts_nil) (fun _ _ _ _ _ => (pe_meth (pv 0) T.cl_Book T.m_Book_has_dog G_Book_has_dog (hr.mono (by decide)) b_Book_has_dog .nil pass0 (by exact (pa_cons (pv 10) pa_nil))))) pa_nil))))) (pa_cons (pe_un un_neg pe_int) pa_nil)))))) (pss_cons (ps_expr (by exact (pe_call G_refuse_if (hr.mono (by decide)) rfl T.g_refuse_if T.k_refuse_if b_refuse_if .nil (passes_call (W := fun cls d _ H => E cls d H) (takes_of rfl rfl rfl rfl) (fun _ _ _ _ h => h)) (by exact (pa_cons (pe_cmpR op_lt (pe_lenSet rfl T.b_len rfl T.b_set (pv 3)) (pe_callB call_len_seq rfl T.b_len PySem.boot_len (pa_cons (pv 3) pa_nil)) (nomark _)) (pa_cons (pe_un un_neg pe_int) pa_nil)))))) (pss_cons (ps_set (i := 5) sc_Book_row.nd rfl (by first | exact Or.inl rfl | exact Or.inr rfl) (by exact (pe_meth0 (pv 0) T.cl_Book T.m_Book_show_on G_Book_show_on hr b_Book_show_on .nil (passes_call (W := fun cls d _ H => E cls d H) (takes_of rfl rfl rfl rfl) (fun _ _ _ _ h => h))))) (pss_cons (ps_setLc (i := 6) (own := [("number", 10)]) (g := (gName 10)) (tt := tYes) rfl sc_Book_row.nd rfl rfl (sw_true rfl rfl rfl (by decide +kernel)) (pi_list (pv 3)) (blkOk_by (own := [("number", 10)]) (N := N_Book_row) (sc := defScope s_Book_row) (by decide +kernel)) (fun _ _ _ _ _ => (pg_name (i := 10) sc_Book_row.nd rfl (by first | exact Or.inl rfl | exact Or.inr rfl))) (fun _ _ _ _ _ => pts_nil) (fun _ _ _ _ _ => (pe_ix ix_list (pe_fld (pv 0) rfl) (pv 10) (fun _ _ => rfl)))) (pss_cons (ps_set (i := 7) sc_Book_row.nd rfl (by first | exact Or.inl rfl | exact Or.inr rfl) (by exact pe_int)) (pss_cons (ps_for (passes_of rfl) rfl (pi_list (pv 6)) (pg_name (i := 8) sc_Book_row.nd rfl (by first | exact Or.inl rfl | exact Or.inr rfl)) (pss_cons (ps_set (i := 9) sc_Book_row.nd rfl (by first | exact Or.inl rfl | exact Or.inr rfl) (by exact (pe_meth (pv 5) T.cl_Show T.m_Show_grade_of G_Show_grade_of (hr.mono (by decide)) b_Show_grade_of .nil pass0 (by exact (pa_cons (pv 8) pa_nil))))) (pss_cons (ps_expr (by exact (pe_call G_refuse_if (hr.mono (by decide)) rfl T.g_refuse_if T.k_refuse_if b_refuse_if .nil (passes_call (W := fun cls d _ H => E cls d H) (takes_of rfl rfl rfl rfl) (fun _ _ _ _ h => h)) (by exact (pa_cons (pe_or (pe_cmpR op_ne (pe_fld (pv 8) rfl) (pv 2) (nomark _)) (pe_one (pe_cmpR op_ne (pe_meth (pv 5) T.cl_Show T.m_Show_class_of G_Show_class_of (hr.mono (by decide)) b_Show_class_of .nil pass0 (by exact (pa_cons (pv 8) pa_nil))) (pv 1) (nomark _)))) (pa_cons (pe_un un_neg pe_int) pa_nil)))))) (pss_cons (ps_expr (by exact (pe_call G_refuse_if (hr.mono (by decide)) rfl T.g_refuse_if T.k_refuse_if b_refuse_if .nil (passes_call (W := fun cls d _ H => E cls d H) (takes_of rfl rfl rfl rfl) (fun _ _ _ _ h => h)) (by exact (pa_cons (pe_or (pe_cmpR op_lt (pv 9) pe_int (nomark _)) (pe_one (pe_cmpR op_gt (pv 9) (pv 7) (nomark _)))) (pa_cons (pe_un un_neg pe_int) pa_nil)))))) (pss_one (ps_set (i := 7) sc_Book_row.nd rfl (by first | exact Or.inl rfl | exact Or.inr rfl) (by exact (pv 9)))))))) (pss_cons (ps_expr (by exact (pe_call G_refuse_if (hr.mono (by decide)) rfl T.g_refuse_if T.k_refuse_if b_refuse_if .nil (passes_call (W := fun cls d _ H => E cls d H) (takes_of rfl rfl rfl rfl) (fun _ _ _ _ h => h)) (by exact (pa_cons (pe_or (pe_cmp (pc_din (hu_of hr) (pe_tup (pa_cons (pv 1) (pa_cons (pv 2) pa_nil))) (pe_fld (pv 5) rfl))) (pe_one (pe_cmpR op_gt (pe_callB call_len_seq rfl T.b_len PySem.boot_len (pa_cons (pe_fld (pv 5) rfl) pa_nil)) pe_int (nomark _)))) (pa_cons (pe_un un_neg pe_int) pa_nil)))))) (pss_cons (ps_dput (hu_of hr) (pe_fld (pv 5) rfl) (pe_tup (pa_cons (pv 1) (pa_cons (pv 2) pa_nil))) (pv 6) rfl) (pss_one (ps_ret (by exact (pe_lst (pa_cons (pe_callB call_len_seq rfl T.b_len PySem.boot_len (pa_cons (pv 6) pa_nil)) pa_nil))))))))))))))
theorem d_Book_award {P : Program} {w : World} {K : PySem.W.Frag} {mg : Str → Option Value} {base : Heap} {c : Cs} (T : Txt K mg c)
    {fd_Show_may_have : FuncData} (G_Show_may_have : FnOk P w K mg base CX0 5 c.f_Show_may_have fd_Show_may_have P_Show_may_have (sp_Show_may_have K c)) (b_Show_may_have : Binds K fd_Show_may_have P_Show_may_have [])
    {fd_refuse_if : FuncData} (G_refuse_if : FnOk P w K mg base (L2.CX P w) 3 c.f_refuse_if fd_refuse_if P_refuse_if (sp_refuse_if K c)) (b_refuse_if : Binds K fd_refuse_if P_refuse_if [])
    {fd_Book_show_on : FuncData} (G_Book_show_on : FnOk P w K mg base (L2.CX P w) 4 c.f_Book_show_on fd_Book_show_on P_Book_show_on (sp_Book_show_on K c)) (b_Book_show_on : Binds K fd_Book_show_on P_Book_show_on [])
    {fd_Book_has_dog : FuncData} (G_Book_has_dog : FnOk P w K mg base CX0 1 c.f_Book_has_dog fd_Book_has_dog P_Book_has_dog (sp_Book_has_dog K c)) (b_Book_has_dog : Binds K fd_Book_has_dog P_Book_has_dog [])
    {cdv : Value} {A : Around} {outer : List Env} {s : Shared} {H : Hp} {E : XK} (hr : Room 5 (A.deeper (envOfC "Book.award" (defScope s_Book_award) s.heap.objs.size c.f_Book_award cdv))) :
    PSs (cxOf (L2.CX P w) P w K mg base N_Book_award "Book.award" (defScope s_Book_award) c.f_Book_award cdv A outer s H E) (defBody s_Book_award) (t_Book_award K c E) := by
  unfold t_Book_award
  exact (pss_cons (ps_expr (by exact (pe_call G_refuse_if (hr.mono (by decide)) rfl T.g_refuse_if T.k_refuse_if b_refuse_if .nil (passes_call (W := fun cls d _ H => E cls d H) (takes_of rfl rfl rfl rfl) (fun _ _ _ _ h => h)) (by exact (pa_cons (pe_or (pe_not (pe_meth (pv 0) T.cl_Book T.m_Book_has_dog G_Book_has_dog (hr.mono (by decide)) b_Book_has_dog .nil pass0 (by exact (pa_cons (pv 1) pa_nil)))) (pe_one (pe_cmpR op_notIn_seq (pv 2) (pe_glob rfl T.g_AWARDS rfl) rfl))) (pa_cons (pe_un un_neg pe_int) pa_nil)))))) (pss_cons (ps_set (i := 3) sc_Book_award.nd rfl (by first | exact Or.inl rfl | exact Or.inr rfl) (by exact (pe_meth0 (pv 0) T.cl_Book T.m_Book_show_on G_Book_show_on (hr.mono (by decide)) b_Book_show_on .nil (passes_call (W := fun cls d _ H => E cls d H) (takes_of rfl rfl rfl rfl) (fun _ _ _ _ h => h))))) (pss_cons (ps_set (i := 4) sc_Book_award.nd rfl (by first | exact Or.inl rfl | exact Or.inr rfl) (by exact (pe_ix ix_list (pe_fld (pv 0) rfl) (pv 1) (fun _ _ => rfl)))) (pss_cons (ps_expr (by exact (pe_call G_refuse_if (hr.mono (by decide)) rfl T.g_refuse_if T.k_refuse_if b_refuse_if .nil (passes_call (W := fun cls d _ H => E cls d H) (takes_of rfl rfl rfl rfl) (fun _ _ _ _ h => h)) (by exact (pa_cons (pe_not (pe_callB (cr_any rfl) rfl T.b_any (by decide +kernel) (pa_cons (pe_lc (own := [("other", 5)]) (g := (gName 5)) (tt := tYes) rfl sc_Book_award.nd (pi_list (pe_meth (pv 3) T.cl_Show T.m_Show_may_have G_Show_may_have hr b_Show_may_have .nil pass0 (by exact (pa_cons (pv 2) (pa_cons (pe_fld (pv 4) rfl) pa_nil))))) (blkOk_by (own := [("other", 5)]) (N := N_Book_award) (sc := defScope s_Book_award) (by decide +kernel)) (fun _ _ _ _ _ => (pg_name (i := 5) sc_Book_award.nd rfl (by first | exact Or.inl rfl | exact Or.inr rfl))) (fun _ _ _ _ _ => pts_nil) (fun _ _ _ _ _ => (pe_cmpR op_eq (pe_fld (pv 5) rfl) (pv 1) (nomark _)))) pa_nil))) (pa_cons (pe_un un_neg pe_int) pa_nil)))))) (pss_cons (ps_expr (by exact (pe_bm PySem.F.plainAttrs_list PySem.F.slot_list_append PySem.F.type_list_append mt_append (pe_fld (pv 3) rfl) (by exact (pa_cons (pe_tup (pa_cons (pv 4) (pa_cons (pv 2) pa_nil))) pa_nil))))) (pss_one (ps_ret (by exact (pe_lst (pa_cons (pe_callB call_len_seq rfl T.b_len PySem.boot_len (pa_cons (pe_fld (pv 3) rfl) pa_nil)) pa_nil))))))))))
theorem d_Book_close_show {P : Program} {w : World} {K : PySem.W.Frag} {mg : Str → Option Value} {base : Heap} {c : Cs} (T : Txt K mg c)
    {fd_Award_init : FuncData} (G_Award_init : FnOk P w K mg base CX0 1 c.f_Award_init fd_Award_init P_Award_init (sp_Award_init K c)) (b_Award_init : Binds K fd_Award_init P_Award_init [])
    {fd_Show_kept_awards : FuncData} (G_Show_kept_awards : FnOk P w K mg base CX0 4 c.f_Show_kept_awards fd_Show_kept_awards P_Show_kept_awards (sp_Show_kept_awards K c)) (b_Show_kept_awards : Binds K fd_Show_kept_awards P_Show_kept_awards [])
    {fd_Book_show_on : FuncData} (G_Book_show_on : FnOk P w K mg base (L2.CX P w) 4 c.f_Book_show_on fd_Book_show_on P_Book_show_on (sp_Book_show_on K c)) (b_Book_show_on : Binds K fd_Book_show_on P_Book_show_on [])
    {cdv : Value} {A : Around} {outer : List Env} {s : Shared} {H : Hp} {E : XK} (hr : Room 4 (A.deeper (envOfC "Book.close_show" (defScope s_Book_close_show) s.heap.objs.size c.f_Book_close_show cdv))) :
    PSs (cxOf (L2.CX P w) P w K mg base N_Book_close_show "Book.close_show" (defScope s_Book_close_show) c.f_Book_close_show cdv A outer s H E) (defBody s_Book_close_show) (t_Book_close_show K c E) := by
  unfold t_Book_close_show
  exact (pss_cons (ps_set (i := 1) sc_Book_close_show.nd rfl (by first | exact Or.inl rfl | exact Or.inr rfl) (by exact (pe_meth0 (pv 0) T.cl_Book T.m_Book_show_on G_Book_show_on hr b_Book_show_on .nil (passes_call (W := fun cls d _ H => E cls d H) (takes_of rfl rfl rfl rfl) (fun _ _ _ _ h => h))))) (pss_cons (ps_set (i := 2) sc_Book_close_show.nd rfl (by first | exact Or.inl rfl | exact Or.inr rfl) (by exact (pe_meth0 (pv 1) T.cl_Show T.m_Show_kept_awards G_Show_kept_awards hr b_Show_kept_awards .nil pass0))) (pss_cons (ps_set (i := 3) sc_Book_close_show.nd rfl (by first | exact Or.inl rfl | exact Or.inr rfl) (by exact (pe_lst (pa_cons (pe_callB call_len_seq rfl T.b_len PySem.boot_len (pa_cons (pv 2) pa_nil)) pa_nil)))) (pss_cons (ps_for (passes_of rfl) rfl (pi_list (pv 2)) (pg_tup rfl (pgs_cons (pg_name (i := 4) sc_Book_close_show.nd rfl (by first | exact Or.inl rfl | exact Or.inr rfl)) (pgs_cons (pg_name (i := 5) sc_Book_close_show.nd rfl (by first | exact Or.inl rfl | exact Or.inr rfl)) pgs_nil))) (pss_one (ps_expr (by exact (pe_bm PySem.F.plainAttrs_list PySem.F.slot_list_extend PySem.F.type_list_extend mt_extend (pv 3) (by exact (pa_cons (pe_lst (pa_cons (pe_fld (pv 4) rfl) (pa_cons (pv 5) pa_nil))) pa_nil))))))) (pss_cons (ps_for (passes_of rfl) rfl (pi_list (pv 2)) (pg_tup rfl (pgs_cons (pg_name (i := 4) sc_Book_close_show.nd rfl (by first | exact Or.inl rfl | exact Or.inr rfl)) (pgs_cons (pg_name (i := 5) sc_Book_close_show.nd rfl (by first | exact Or.inl rfl | exact Or.inr rfl)) pgs_nil))) (pss_one (ps_expr (by exact (pe_bm PySem.F.plainAttrs_list PySem.F.slot_list_append PySem.F.type_list_append mt_append (pe_fld (pv 4) rfl) (by exact (pa_cons (pe_make T.mk_Award G_Award_init (hr.mono (by decide)) rfl T.g_Award b_Award_init .nil pass0 (by exact (pa_cons (pv 5) (pa_cons (pe_fld (pv 1) rfl) (pa_cons (pe_fld (pv 1) rfl) (pa_cons (pe_fld (pv 1) rfl) pa_nil)))))) pa_nil))))))) (pss_cons (ps_fld (pv 0) (by exact pe_non) rfl) (pss_one (ps_ret (by exact (pv 3))))))))))
theorem d_Book_may {P : Program} {w : World} {K : PySem.W.Frag} {mg : Str → Option Value} {base : Heap} {c : Cs} (T : Txt K mg c)
    {fd_Book_show_on : FuncData} (G_Book_show_on : FnOk P w K mg base (L2.CX P w) 4 c.f_Book_show_on fd_Book_show_on P_Book_show_on (sp_Book_show_on K c)) (b_Book_show_on : Binds K fd_Book_show_on P_Book_show_on [])
    {fd_Show_may_have : FuncData} (G_Show_may_have : FnOk P w K mg base CX0 5 c.f_Show_may_have fd_Show_may_have P_Show_may_have (sp_Show_may_have K c)) (b_Show_may_have : Binds K fd_Show_may_have P_Show_may_have [])
    {fd_refuse_if : FuncData} (G_refuse_if : FnOk P w K mg base (L2.CX P w) 3 c.f_refuse_if fd_refuse_if P_refuse_if (sp_refuse_if K c)) (b_refuse_if : Binds K fd_refuse_if P_refuse_if [])
    {cdv : Value} {A : Around} {outer : List Env} {s : Shared} {H : Hp} {E : XK} (hr : Room 5 (A.deeper (envOfC "Book.may" (defScope s_Book_may) s.heap.objs.size c.f_Book_may cdv))) :
    PSs (cxOf (L2.CX P w) P w K mg base N_Book_may "Book.may" (defScope s_Book_may) c.f_Book_may cdv A outer s H E) (defBody s_Book_may) (t_Book_may K c E) := by
  unfold t_Book_may
  exact (pss_cons (ps_expr (by exact (pe_call G_refuse_if (hr.mono (by decide)) rfl T.g_refuse_if T.k_refuse_if b_refuse_if .nil (passes_call (W := fun cls d _ H => E cls d H) (takes_of rfl rfl rfl rfl) (fun _ _ _ _ h => h)) (by exact (pa_cons (pe_or (pe_not (pe_chain op_le op_le pe_int (pv 1) pe_int)) (pe_one (pe_cmpR op_notIn_seq (pv 2) (pe_tup (pa_cons pe_int (pa_cons pe_int pa_nil))) rfl))) (pa_cons (pe_un un_neg pe_int) pa_nil)))))) (pss_cons (ps_set (i := 3) sc_Book_may.nd rfl (by first | exact Or.inl rfl | exact Or.inr rfl) (by exact (pe_meth (pe_meth0 (pv 0) T.cl_Book T.m_Book_show_on G_Book_show_on (hr.mono (by decide)) b_Book_show_on .nil (passes_call (W := fun cls d _ H => E cls d H) (takes_of rfl rfl rfl rfl) (fun _ _ _ _ h => h))) T.cl_Show T.m_Show_may_have G_Show_may_have hr b_Show_may_have .nil pass0 (by exact (pa_cons (pv 1) (pa_cons (pv 2) pa_nil)))))) (pss_one (ps_ret (by exact (pe_op op_cat (pe_lst (pa_cons (pe_callB call_len_seq rfl T.b_len PySem.boot_len (pa_cons (pv 3) pa_nil)) pa_nil)) (pe_lc (own := [("dog", 4)]) (g := (gName 4)) (tt := tYes) rfl sc_Book_may.nd (pi_list (pv 3)) (blkOk_by (own := [("dog", 4)]) (N := N_Book_may) (sc := defScope s_Book_may) (by decide +kernel)) (fun _ _ _ _ _ => (pg_name (i := 4) sc_Book_may.nd rfl (by first | exact Or.inl rfl | exact Or.inr rfl))) (fun _ _ _ _ _ => pts_nil) (fun _ _ _ _ _ => (pe_fld (pv 4) rfl)))))))))
theorem d_Book_titles {P : Program} {w : World} {K : PySem.W.Frag} {mg : Str → Option Value} {base : Heap} {c : Cs} (T : Txt K mg c)
    {fd_Dog_is_international : FuncData} (G_Dog_is_international : FnOk P w K mg base CX0 2 c.f_Dog_is_international fd_Dog_is_international P_Dog_is_international (sp_Dog_is_international K c)) (b_Dog_is_international : Binds K fd_Dog_is_international P_Dog_is_international [])
    {fd_yes : FuncData} (G_yes : FnOk P w K mg base CX0 1 c.f_yes fd_yes P_yes (sp_yes K c)) (b_yes : Binds K fd_yes P_yes [])
    {fd_Dog_is_old_champion : FuncData} (G_Dog_is_old_champion : FnOk P w K mg base CX0 2 c.f_Dog_is_old_champion fd_Dog_is_old_champion P_Dog_is_old_champion (sp_Dog_is_old_champion K c)) (b_Dog_is_old_champion : Binds K fd_Dog_is_old_champion P_Dog_is_old_champion [])
    {fd_Dog_is_young_champion : FuncData} (G_Dog_is_young_champion : FnOk P w K mg base CX0 2 c.f_Dog_is_young_champion fd_Dog_is_young_champion P_Dog_is_young_champion (sp_Dog_is_young_champion K c)) (b_Dog_is_young_champion : Binds K fd_Dog_is_young_champion P_Dog_is_young_champion [])
    {fd_Dog_is_champion : FuncData} (G_Dog_is_champion : FnOk P w K mg base CX0 2 c.f_Dog_is_champion fd_Dog_is_champion P_Dog_is_champion (sp_Dog_is_champion K c)) (b_Dog_is_champion : Binds K fd_Dog_is_champion P_Dog_is_champion [])
    {fd_Book_has_dog : FuncData} (G_Book_has_dog : FnOk P w K mg base CX0 1 c.f_Book_has_dog fd_Book_has_dog P_Book_has_dog (sp_Book_has_dog K c)) (b_Book_has_dog : Binds K fd_Book_has_dog P_Book_has_dog [])
    {fd_refuse_if : FuncData} (G_refuse_if : FnOk P w K mg base (L2.CX P w) 3 c.f_refuse_if fd_refuse_if P_refuse_if (sp_refuse_if K c)) (b_refuse_if : Binds K fd_refuse_if P_refuse_if [])
    {cdv : Value} {A : Around} {outer : List Env} {s : Shared} {H : Hp} {E : XK} (hr : Room 3 (A.deeper (envOfC "Book.titles" (defScope s_Book_titles) s.heap.objs.size c.f_Book_titles cdv))) :
    PSs (cxOf (L2.CX P w) P w K mg base N_Book_titles "Book.titles" (defScope s_Book_titles) c.f_Book_titles cdv A outer s H E) (defBody s_Book_titles) (t_Book_titles K c E) := by
  unfold t_Book_titles
  exact (pss_cons (ps_expr (by exact (pe_call G_refuse_if hr rfl T.g_refuse_if T.k_refuse_if b_refuse_if .nil (passes_call (W := fun cls d _ H => E cls d H) (takes_of rfl rfl rfl rfl) (fun _ _ _ _ h => h)) (by exact (pa_cons (pe_not (pe_meth (pv 0) T.cl_Book T.m_Book_has_dog G_Book_has_dog (hr.mono (by decide)) b_Book_has_dog .nil pass0 (by exact (pa_cons (pv 1) pa_nil)))) (pa_cons (pe_un un_neg pe_int) pa_nil)))))) (pss_cons (ps_set (i := 2) sc_Book_titles.nd rfl (by first | exact Or.inl rfl | exact Or.inr rfl) (by exact (pe_ix ix_list (pe_fld (pv 0) rfl) (pv 1) (fun _ _ => rfl)))) (pss_cons (ps_set (i := 3) sc_Book_titles.nd rfl (by first | exact Or.inl rfl | exact Or.inr rfl) (by exact (pe_lst (pa_cons (pe_call G_yes (hr.mono (by decide)) rfl T.g_yes T.k_yes b_yes .nil pass0 (by exact (pa_cons (pe_meth0 (pv 2) T.cl_Dog T.m_Dog_is_champion G_Dog_is_champion (hr.mono (by decide)) b_Dog_is_champion .nil pass0) pa_nil))) (pa_cons (pe_call G_yes (hr.mono (by decide)) rfl T.g_yes T.k_yes b_yes .nil pass0 (by exact (pa_cons (pe_meth0 (pv 2) T.cl_Dog T.m_Dog_is_young_champion G_Dog_is_young_champion (hr.mono (by decide)) b_Dog_is_young_champion .nil pass0) pa_nil))) pa_nil))))) (pss_one (ps_ret (by exact (pe_op op_cat (pv 3) (pe_lst (pa_cons (pe_call G_yes (hr.mono (by decide)) rfl T.g_yes T.k_yes b_yes .nil pass0 (by exact (pa_cons (pe_meth0 (pv 2) T.cl_Dog T.m_Dog_is_old_champion G_Dog_is_old_champion (hr.mono (by decide)) b_Dog_is_old_champion .nil pass0) pa_nil))) (pa_cons (pe_call G_yes (hr.mono (by decide)) rfl T.g_yes T.k_yes b_yes .nil pass0 (by exact (pa_cons (pe_meth0 (pv 2) T.cl_Dog T.m_Dog_is_international G_Dog_is_international (hr.mono (by decide)) b_Dog_is_international .nil pass0) pa_nil))) pa_nil))))))))))
theorem d_Book_kept {P : Program} {w : World} {K : PySem.W.Frag} {mg : Str → Option Value} {base : Heap} {c : Cs} (T : Txt K mg c)
    {fd_Book_has_dog : FuncData} (G_Book_has_dog : FnOk P w K mg base CX0 1 c.f_Book_has_dog fd_Book_has_dog P_Book_has_dog (sp_Book_has_dog K c)) (b_Book_has_dog : Binds K fd_Book_has_dog P_Book_has_dog [])
    {fd_refuse_if : FuncData} (G_refuse_if : FnOk P w K mg base (L2.CX P w) 3 c.f_refuse_if fd_refuse_if P_refuse_if (sp_refuse_if K c)) (b_refuse_if : Binds K fd_refuse_if P_refuse_if [])
    {cdv : Value} {A : Around} {outer : List Env} {s : Shared} {H : Hp} {E : XK} (hr : Room 3 (A.deeper (envOfC "Book.kept" (defScope s_Book_kept) s.heap.objs.size c.f_Book_kept cdv))) :
    PSs (cxOf (L2.CX P w) P w K mg base N_Book_kept "Book.kept" (defScope s_Book_kept) c.f_Book_kept cdv A outer s H E) (defBody s_Book_kept) (t_Book_kept K c E) := by
  unfold t_Book_kept
  exact (pss_cons (ps_expr (by exact (pe_call G_refuse_if hr rfl T.g_refuse_if T.k_refuse_if b_refuse_if .nil (passes_call (W := fun cls d _ H => E cls d H) (takes_of rfl rfl rfl rfl) (fun _ _ _ _ h => h)) (by exact (pa_cons (pe_not (pe_meth (pv 0) T.cl_Book T.m_Book_has_dog G_Book_has_dog (hr.mono (by decide)) b_Book_has_dog .nil pass0 (by exact (pa_cons (pv 1) pa_nil)))) (pa_cons (pe_un un_neg pe_int) pa_nil)))))) (pss_cons (ps_set (i := 2) sc_Book_kept.nd rfl (by first | exact Or.inl rfl | exact Or.inr rfl) (by exact (pe_fld (pe_ix ix_list (pe_fld (pv 0) rfl) (pv 1) (fun _ _ => rfl)) rfl))) (pss_cons (ps_set (i := 3) sc_Book_kept.nd rfl (by first | exact Or.inl rfl | exact Or.inr rfl) (by exact (pe_lst (pa_cons (pe_callB call_len_seq rfl T.b_len PySem.boot_len (pa_cons (pv 2) pa_nil)) pa_nil)))) (pss_cons (ps_for (passes_of rfl) rfl (pi_list (pv 2)) (pg_name (i := 4) sc_Book_kept.nd rfl (by first | exact Or.inl rfl | exact Or.inr rfl)) (pss_one (ps_expr (by exact (pe_bm PySem.F.plainAttrs_list PySem.F.slot_list_extend PySem.F.type_list_extend mt_extend (pv 3) (by exact (pa_cons (pe_lst (pa_cons (pe_fld (pv 4) rfl) (pa_cons (pe_fld (pv 4) rfl) (pa_cons (pe_fld (pv 4) rfl) (pa_cons (pe_fld (pv 4) rfl) pa_nil))))) pa_nil))))))) (pss_one (ps_ret (by exact (pv 3))))))))
theorem d_Book_now {P : Program} {w : World} {K : PySem.W.Frag} {mg : Str → Option Value} {base : Heap} {c : Cs} (T : Txt K mg c)
    {fd_Show_grade_of : FuncData} (G_Show_grade_of : FnOk P w K mg base CX0 1 c.f_Show_grade_of fd_Show_grade_of P_Show_grade_of (sp_Show_grade_of K c)) (b_Show_grade_of : Binds K fd_Show_grade_of P_Show_grade_of [])
    {fd_Book_show_on : FuncData} (G_Book_show_on : FnOk P w K mg base (L2.CX P w) 4 c.f_Book_show_on fd_Book_show_on P_Book_show_on (sp_Book_show_on K c)) (b_Book_show_on : Binds K fd_Book_show_on P_Book_show_on [])
    {cdv : Value} {A : Around} {outer : List Env} {s : Shared} {H : Hp} {E : XK} (hr : Room 4 (A.deeper (envOfC "Book.now" (defScope s_Book_now) s.heap.objs.size c.f_Book_now cdv))) :
    PSs (cxOf (L2.CX P w) P w K mg base N_Book_now "Book.now" (defScope s_Book_now) c.f_Book_now cdv A outer s H E) (defBody s_Book_now) (t_Book_now K c E) := by
  unfold t_Book_now
  exact (pss_cons (ps_set (i := 1) sc_Book_now.nd rfl (by first | exact Or.inl rfl | exact Or.inr rfl) (by exact (pe_meth0 (pv 0) T.cl_Book T.m_Book_show_on G_Book_show_on hr b_Book_show_on .nil (passes_call (W := fun cls d _ H => E cls d H) (takes_of rfl rfl rfl rfl) (fun _ _ _ _ h => h))))) (pss_cons (ps_set (i := 2) sc_Book_now.nd rfl (by first | exact Or.inl rfl | exact Or.inr rfl) (by exact (pe_lst (pa_cons (pe_callB call_len_seq rfl T.b_len PySem.boot_len (pa_cons (pe_fld (pv 1) rfl) pa_nil)) pa_nil)))) (pss_cons (ps_for (passes_of rfl) rfl (pi_list (pe_fld (pv 1) rfl)) (pg_tup rfl (pgs_cons (pg_name (i := 3) sc_Book_now.nd rfl (by first | exact Or.inl rfl | exact Or.inr rfl)) (pgs_cons (pg_name (i := 4) sc_Book_now.nd rfl (by first | exact Or.inl rfl | exact Or.inr rfl)) pgs_nil))) (pss_one (ps_expr (by exact (pe_bm PySem.F.plainAttrs_list PySem.F.slot_list_extend PySem.F.type_list_extend mt_extend (pv 2) (by exact (pa_cons (pe_lst (pa_cons (pe_fld (pv 3) rfl) (pa_cons (pv 4) (pa_cons (pe_meth (pv 1) T.cl_Show T.m_Show_grade_of G_Show_grade_of (hr.mono (by decide)) b_Show_grade_of .nil pass0 (by exact (pa_cons (pv 3) pa_nil))) pa_nil)))) pa_nil))))))) (pss_one (ps_ret (by exact (pv 2)))))))
end Ds

/-! Printed by gen.py: that each def has its reading. -/
namespace Ds
open PySem PySem.Spec PyProof.Rows L2 Evl

theorem d_answer {P : Program} {w : World} {K : PySem.W.Frag} {mg : Str → Option Value} {base : Heap} {c : Cs} (T : Txt K mg c)
    {fd_Book_now : FuncData} (G_Book_now : FnOk P w K mg base (L2.CX P w) 5 c.f_Book_now fd_Book_now P_Book_now (sp_Book_now K c)) (b_Book_now : Binds K fd_Book_now P_Book_now [])
    {fd_Book_kept : FuncData} (G_Book_kept : FnOk P w K mg base (L2.CX P w) 4 c.f_Book_kept fd_Book_kept P_Book_kept (sp_Book_kept K c)) (b_Book_kept : Binds K fd_Book_kept P_Book_kept [])
    {fd_Book_titles : FuncData} (G_Book_titles : FnOk P w K mg base (L2.CX P w) 4 c.f_Book_titles fd_Book_titles P_Book_titles (sp_Book_titles K c)) (b_Book_titles : Binds K fd_Book_titles P_Book_titles [])
    {fd_Book_may : FuncData} (G_Book_may : FnOk P w K mg base (L2.CX P w) 6 c.f_Book_may fd_Book_may P_Book_may (sp_Book_may K c)) (b_Book_may : Binds K fd_Book_may P_Book_may [])
    {fd_Book_close_show : FuncData} (G_Book_close_show : FnOk P w K mg base (L2.CX P w) 5 c.f_Book_close_show fd_Book_close_show P_Book_close_show (sp_Book_close_show K c)) (b_Book_close_show : Binds K fd_Book_close_show P_Book_close_show [])
    {fd_Book_award : FuncData} (G_Book_award : FnOk P w K mg base (L2.CX P w) 6 c.f_Book_award fd_Book_award P_Book_award (sp_Book_award K c)) (b_Book_award : Binds K fd_Book_award P_Book_award [])
    {fd_Book_row : FuncData} (G_Book_row : FnOk P w K mg base (L2.CX P w) 5 c.f_Book_row fd_Book_row P_Book_row (sp_Book_row K c)) (b_Book_row : Binds K fd_Book_row P_Book_row [])
    {fd_Book_grade : FuncData} (G_Book_grade : FnOk P w K mg base (L2.CX P w) 5 c.f_Book_grade fd_Book_grade P_Book_grade (sp_Book_grade K c)) (b_Book_grade : Binds K fd_Book_grade P_Book_grade [])
    {fd_Book_enter : FuncData} (G_Book_enter : FnOk P w K mg base (L2.CX P w) 5 c.f_Book_enter fd_Book_enter P_Book_enter (sp_Book_enter K c)) (b_Book_enter : Binds K fd_Book_enter P_Book_enter [])
    {fd_Book_begin_show : FuncData} (G_Book_begin_show : FnOk P w K mg base (L2.CX P w) 4 c.f_Book_begin_show fd_Book_begin_show P_Book_begin_show (sp_Book_begin_show K c)) (b_Book_begin_show : Binds K fd_Book_begin_show P_Book_begin_show [])
    {fd_Book_add_dog : FuncData} (G_Book_add_dog : FnOk P w K mg base (L2.CX P w) 4 c.f_Book_add_dog fd_Book_add_dog P_Book_add_dog (sp_Book_add_dog K c)) (b_Book_add_dog : Binds K fd_Book_add_dog P_Book_add_dog [])
    {cdv : Value} {A : Around} {outer : List Env} {s : Shared} {H : Hp} {E : XK} (hr : Room 6 (A.deeper (envOfC "answer" (defScope s_answer) s.heap.objs.size c.f_answer cdv))) :
    PSs (cxOf (L2.CX P w) P w K mg base N_answer "answer" (defScope s_answer) c.f_answer cdv A outer s H E) (defBody s_answer) (t_answer K c E) := by
  unfold t_answer
  exact (pss_cons (ps_if (pt_cmpR op_eq (pv 1) pe_int (nomark _)) (pss_one (ps_ret (by exact (pe_meth (pv 0) T.cl_Book T.m_Book_add_dog G_Book_add_dog (hr.mono (by decide)) b_Book_add_dog .nil (passes_call (W := fun cls d _ H => E cls d H) (takes_of rfl rfl rfl rfl) (fun _ _ _ _ h => h)) (by exact (pa_cons (pv 2) pa_nil)))))) pss_nil) (pss_cons (ps_if (pt_cmpR op_eq (pv 1) pe_int (nomark _)) (pss_one (ps_ret (by exact (pe_meth (pv 0) T.cl_Book T.m_Book_begin_show G_Book_begin_show (hr.mono (by decide)) b_Book_begin_show .nil (passes_call (W := fun cls d _ H => E cls d H) (takes_of rfl rfl rfl rfl) (fun _ _ _ _ h => h)) (by exact (pa_cons (pv 2) pa_nil)))))) pss_nil) (pss_cons (ps_if (pt_cmpR op_eq (pv 1) pe_int (nomark _)) (pss_one (ps_ret (by exact (pe_meth (pv 0) T.cl_Book T.m_Book_enter G_Book_enter (hr.mono (by decide)) b_Book_enter .nil (passes_call (W := fun cls d _ H => E cls d H) (takes_of rfl rfl rfl rfl) (fun _ _ _ _ h => h)) (by exact (pa_cons (pe_ix ix_list (pv 2) pe_int (fun _ _ => rfl)) (pa_cons (pe_ix ix_list (pv 2) pe_int (fun _ _ => rfl)) pa_nil))))))) pss_nil) (pss_cons (ps_if (pt_cmpR op_eq (pv 1) pe_int (nomark _)) (pss_one (ps_ret (by exact (pe_meth (pv 0) T.cl_Book T.m_Book_grade G_Book_grade (hr.mono (by decide)) b_Book_grade .nil (passes_call (W := fun cls d _ H => E cls d H) (takes_of rfl rfl rfl rfl) (fun _ _ _ _ h => h)) (by exact (pa_cons (pe_ix ix_list (pv 2) pe_int (fun _ _ => rfl)) (pa_cons (pe_ix ix_list (pv 2) pe_int (fun _ _ => rfl)) pa_nil))))))) pss_nil) (pss_cons (ps_if (pt_cmpR op_eq (pv 1) pe_int (nomark _)) (pss_one (ps_ret (by exact (pe_meth (pv 0) T.cl_Book T.m_Book_row G_Book_row (hr.mono (by decide)) b_Book_row .nil (passes_call (W := fun cls d _ H => E cls d H) (takes_of rfl rfl rfl rfl) (fun _ _ _ _ h => h)) (by exact (pa_cons (pe_ix ix_list (pv 2) pe_int (fun _ _ => rfl)) (pa_cons (pe_ix ix_list (pv 2) pe_int (fun _ _ => rfl)) (pa_cons (pv 3) pa_nil)))))))) pss_nil) (pss_cons (ps_if (pt_cmpR op_eq (pv 1) pe_int (nomark _)) (pss_one (ps_ret (by exact (pe_meth (pv 0) T.cl_Book T.m_Book_award G_Book_award hr b_Book_award .nil (passes_call (W := fun cls d _ H => E cls d H) (takes_of rfl rfl rfl rfl) (fun _ _ _ _ h => h)) (by exact (pa_cons (pe_ix ix_list (pv 2) pe_int (fun _ _ => rfl)) (pa_cons (pe_ix ix_list (pv 2) pe_int (fun _ _ => rfl)) pa_nil))))))) pss_nil) (pss_cons (ps_if (pt_cmpR op_eq (pv 1) pe_int (nomark _)) (pss_one (ps_ret (by exact (pe_meth0 (pv 0) T.cl_Book T.m_Book_close_show G_Book_close_show (hr.mono (by decide)) b_Book_close_show .nil (passes_call (W := fun cls d _ H => E cls d H) (takes_of rfl rfl rfl rfl) (fun _ _ _ _ h => h)))))) pss_nil) (pss_cons (ps_if (pt_cmpR op_eq (pv 1) pe_int (nomark _)) (pss_one (ps_ret (by exact (pe_meth (pv 0) T.cl_Book T.m_Book_may G_Book_may hr b_Book_may .nil (passes_call (W := fun cls d _ H => E cls d H) (takes_of rfl rfl rfl rfl) (fun _ _ _ _ h => h)) (by exact (pa_cons (pe_ix ix_list (pv 2) pe_int (fun _ _ => rfl)) (pa_cons (pe_ix ix_list (pv 2) pe_int (fun _ _ => rfl)) pa_nil))))))) pss_nil) (pss_cons (ps_if (pt_cmpR op_eq (pv 1) pe_int (nomark _)) (pss_one (ps_ret (by exact (pe_meth (pv 0) T.cl_Book T.m_Book_titles G_Book_titles (hr.mono (by decide)) b_Book_titles .nil (passes_call (W := fun cls d _ H => E cls d H) (takes_of rfl rfl rfl rfl) (fun _ _ _ _ h => h)) (by exact (pa_cons (pe_ix ix_list (pv 2) pe_int (fun _ _ => rfl)) pa_nil)))))) pss_nil) (pss_cons (ps_if (pt_cmpR op_eq (pv 1) pe_int (nomark _)) (pss_one (ps_ret (by exact (pe_meth (pv 0) T.cl_Book T.m_Book_kept G_Book_kept (hr.mono (by decide)) b_Book_kept .nil (passes_call (W := fun cls d _ H => E cls d H) (takes_of rfl rfl rfl rfl) (fun _ _ _ _ h => h)) (by exact (pa_cons (pe_ix ix_list (pv 2) pe_int (fun _ _ => rfl)) pa_nil)))))) pss_nil) (pss_one (ps_ret (by exact (pe_meth0 (pv 0) T.cl_Book T.m_Book_now G_Book_now (hr.mono (by decide)) b_Book_now .nil (passes_call (W := fun cls d _ H => E cls d H) (takes_of rfl rfl rfl rfl) (fun _ _ _ _ h => h))))))))))))))))
theorem d_read_call {P : Program} {w : World} {K : PySem.W.Frag} {mg : Str → Option Value} {base : Heap} {c : Cs} (T : Txt K mg c)
    {cdv : Value} {A : Around} {outer : List Env} {s : Shared} {H : Hp} {E : XK} (hr : Room 0 (A.deeper (envOfC "read_call" (defScope s_read_call) s.heap.objs.size c.f_read_call cdv))) :
    PSs (cxOf CX0 P w K mg base N_read_call "read_call" (defScope s_read_call) c.f_read_call cdv A outer s H E).nox (defBody s_read_call) (t_read_call K c) := by
  unfold t_read_call
  exact (pss_cons (ps_set (i := 2) sc_read_call.nd rfl (by first | exact Or.inl rfl | exact Or.inr rfl) (by exact (pe_ix ix_list (pv 0) (pv 1) (fun _ _ => rfl)))) (pss_cons (ps_asg (by exact (pe_ix ix_tup (pe_glob rfl T.g_FORMS rfl) (pe_op op_sub (pv 2) pe_int) (fun _ _ => rfl))) (pg_tup rfl (pgs_cons (pg_name (i := 5) sc_read_call.nd rfl (by first | exact Or.inl rfl | exact Or.inr rfl)) (pgs_cons (pg_name (i := 6) sc_read_call.nd rfl (by first | exact Or.inl rfl | exact Or.inr rfl)) pgs_nil)))) (pss_cons (ps_set (i := 3) sc_read_call.nd rfl (by first | exact Or.inl rfl | exact Or.inr rfl) (by exact (pe_slice sl_list (pv 0) (po_some (pe_op op_add (pv 1) pe_int)) (po_some (pe_op op_add (pe_op op_add (pv 1) pe_int) (pv 5)))))) (pss_cons (ps_set (i := 1) sc_read_call.nd rfl (by first | exact Or.inl rfl | exact Or.inr rfl) (by exact (pe_op op_add (pe_op op_add (pv 1) pe_int) (pv 5)))) (pss_cons (ps_set (i := 4) sc_read_call.nd rfl (by first | exact Or.inl rfl | exact Or.inr rfl) (by exact (pe_lst pa_nil))) (pss_cons (ps_if (pt_cmpR op_gt (pv 6) pe_int (nomark _)) (pss_cons (ps_set (i := 7) sc_read_call.nd rfl (by first | exact Or.inl rfl | exact Or.inr rfl) (by exact (pe_ix ix_list (pv 0) (pv 1) (fun _ _ => rfl)))) (pss_cons (ps_set (i := 4) sc_read_call.nd rfl (by first | exact Or.inl rfl | exact Or.inr rfl) (by exact (pe_slice sl_list (pv 0) (po_some (pe_op op_add (pv 1) pe_int)) (po_some (pe_op op_add (pe_op op_add (pv 1) pe_int) (pv 7)))))) (pss_one (ps_set (i := 1) sc_read_call.nd rfl (by first | exact Or.inl rfl | exact Or.inr rfl) (by exact (pe_op op_add (pe_op op_add (pv 1) pe_int) (pv 7))))))) pss_nil) (pss_one (ps_ret (by exact (pe_tup (pa_cons (pv 2) (pa_cons (pv 3) (pa_cons (pv 4) (pa_cons (pv 1) pa_nil))))))))))))))
theorem d_answers {P : Program} {w : World} {K : PySem.W.Frag} {mg : Str → Option Value} {base : Heap} {c : Cs} (T : Txt K mg c)
    {fd_Book_init : FuncData} (G_Book_init : FnOk P w K mg base CX0 1 c.f_Book_init fd_Book_init P_Book_init (sp_Book_init K c)) (b_Book_init : Binds K fd_Book_init P_Book_init [])
    {fd_answer : FuncData} (G_answer : FnOk P w K mg base (L2.CX P w) 7 c.f_answer fd_answer P_answer (sp_answer K c)) (b_answer : Binds K fd_answer P_answer [])
    {fd_read_call : FuncData} (G_read_call : FnOk P w K mg base CX0 1 c.f_read_call fd_read_call P_read_call (sp_read_call K c)) (b_read_call : Binds K fd_read_call P_read_call [])
    {cdv : Value} {A : Around} {outer : List Env} {s : Shared} {H : Hp} {E : XK} (hr : Room 7 (A.deeper (envOfC "answers" (defScope s_answers) s.heap.objs.size c.f_answers cdv))) :
    PSs (cxOf CX0 P w K mg base N_answers "answers" (defScope s_answers) c.f_answers cdv A outer s H E).nox (defBody s_answers) (t_answers K c) := by
  unfold t_answers
  exact (pss_cons (ps_set (i := 1) sc_answers.nd rfl (by first | exact Or.inl rfl | exact Or.inr rfl) (by exact (pe_make0 T.mk_Book G_Book_init (hr.mono (by decide)) rfl T.g_Book b_Book_init .nil pass0))) (pss_cons (ps_set (i := 2) sc_answers.nd rfl (by first | exact Or.inl rfl | exact Or.inr rfl) (by exact (pe_lst pa_nil))) (pss_cons (ps_set (i := 3) sc_answers.nd rfl (by first | exact Or.inl rfl | exact Or.inr rfl) (by exact pe_int)) (pss_cons (ps_while PassesOwn.never (pt_cmpR op_lt (pv 3) (pe_callB call_len_seq rfl T.b_len PySem.boot_len (pa_cons (pv 0) pa_nil)) (nomark _)) (pss_cons (ps_asg (by exact (pe_call G_read_call (hr.mono (by decide)) rfl T.g_read_call T.k_read_call b_read_call .nil pass0 (by exact (pa_cons (pv 0) (pa_cons (pv 3) pa_nil))))) (pg_tup rfl (pgs_cons (pg_name (i := 5) sc_answers.nd rfl (by first | exact Or.inl rfl | exact Or.inr rfl)) (pgs_cons (pg_name (i := 6) sc_answers.nd rfl (by first | exact Or.inl rfl | exact Or.inr rfl)) (pgs_cons (pg_name (i := 7) sc_answers.nd rfl (by first | exact Or.inl rfl | exact Or.inr rfl)) (pgs_cons (pg_name (i := 3) sc_answers.nd rfl (by first | exact Or.inl rfl | exact Or.inr rfl)) pgs_nil)))))) (pss_cons (ps_try_as (i := 4) (tb := fun W => (tIfS (tTest (tOp rEq (tVar 5) (tC (.int 1)))) (tSeq (tAsg (tMake c.C_Book (sp_Book_init K c) [] E0 tNil) (gName 1)) (tAsg (tLst (tCons (tC (.int 0)) tNil)) (gName 8))) (tAsg (tCallS (sp_answer K c) (WE W) (tCons (tVar 1) (tCons (tVar 5) (tCons (tVar 6) (tCons (tVar 7) tNil))))) (gName 8)))) (ts := fun a cls d => (tAsg (tLst (tCons (tXf a cls d c.C_Refusal "number" (tVar 4)) tNil)) (gName 8))) (Wout := fun _ _ _ _ => False) rfl rfl sc_answers.nd rfl rfl ⟨rfl, by decide, Or.inl T.g_Refusal⟩ takes0 (fun W pn xe tk _ => (pss_one (ps_if (pt_cmpR op_eq (pv 5) pe_int (nomark _)) (pss_cons (ps_set (i := 1) sc_answers.nd rfl (by first | exact Or.inl rfl | exact Or.inr rfl) (by exact (pe_make0 T.mk_Book G_Book_init (hr.mono (by decide)) rfl T.g_Book b_Book_init .nil pass0))) (pss_one (ps_set (i := 8) sc_answers.nd rfl (by first | exact Or.inl rfl | exact Or.inr rfl) (by exact (pe_lst (pa_cons pe_int pa_nil)))))) (pss_one (ps_set (i := 8) sc_answers.nd rfl (by first | exact Or.inl rfl | exact Or.inr rfl) (by exact (pe_callS G_answer hr rfl T.g_answer T.k_answer b_answer (fun σ => passAt tk σ) (by exact (pa_cons (pv 1) (pa_cons (pv 5) (pa_cons (pv 6) (pa_cons (pv 7) pa_nil)))))))))))) (fun a oe cls d pn hz hf => (pss_one (ps_set (i := 8) sc_answers.nd rfl (by first | exact Or.inl rfl | exact Or.inr rfl) (by exact (pe_lst (pa_cons (pe_xf T.xf T.nNum hz hf (pv 4)) pa_nil))))))) (pss_cons (ps_expr (by exact (pe_bm PySem.F.plainAttrs_list PySem.F.slot_list_append PySem.F.type_list_append mt_append (pv 2) (by exact (pa_cons (pe_callB call_len_seq rfl T.b_len PySem.boot_len (pa_cons (pv 8) pa_nil)) pa_nil))))) (pss_one (ps_expr (by exact (pe_bm PySem.F.plainAttrs_list PySem.F.slot_list_extend PySem.F.type_list_extend mt_extend (pv 2) (by exact (pa_cons (pv 8) pa_nil)))))))))) (pss_one (ps_ret (by exact (pv 2))))))))
end Ds

/-! Printed by gen.py: each def keeps its promise. -/
namespace Ds
open PySem PySem.Spec PyProof.Rows L2 Evl

section
variable {P : Program} {w : World} {K : PySem.W.Frag} {mg : Str → Option Value} {base : Heap} {c : Cs}
theorem ok_Award_init (T : Txt K mg c) : ∃ fd, FnOk P w K mg base CX0 1 c.f_Award_init fd P_Award_init (sp_Award_init K c) ∧ Binds K fd P_Award_init [] := by
  obtain ⟨fd, F, b⟩ := T.F_Award_init
  exact ⟨fd, F.ok sc_Award_init (fun vs H Q E h => len_Award_init h) (fun cdv A outer s H vs Q E hr h => ⟨t_Award_init K c, d_Award_init T  hr, pure_Award_init T vs H Q E h⟩), b⟩
theorem ok_Dog_init (T : Txt K mg c) : ∃ fd, FnOk P w K mg base CX0 1 c.f_Dog_init fd P_Dog_init (sp_Dog_init K c) ∧ Binds K fd P_Dog_init [] := by
  obtain ⟨fd, F, b⟩ := T.F_Dog_init
  exact ⟨fd, F.ok sc_Dog_init (fun vs H Q E h => len_Dog_init h) (fun cdv A outer s H vs Q E hr h => ⟨t_Dog_init K c, d_Dog_init T  hr, pure_Dog_init T vs H Q E h⟩), b⟩
theorem ok_Dog_has_enough (T : Txt K mg c) : ∃ fd, FnOk P w K mg base CX0 1 c.f_Dog_has_enough fd P_Dog_has_enough (sp_Dog_has_enough K c) ∧ Binds K fd P_Dog_has_enough [] := by
  obtain ⟨fd, F, b⟩ := T.F_Dog_has_enough
  exact ⟨fd, F.ok sc_Dog_has_enough (fun vs H Q E h => len_Dog_has_enough h) (fun cdv A outer s H vs Q E hr h => ⟨t_Dog_has_enough K c, d_Dog_has_enough T  hr, pure_Dog_has_enough T vs H Q E h⟩), b⟩
theorem ok_Dog_is_champion (T : Txt K mg c) : ∃ fd, FnOk P w K mg base CX0 2 c.f_Dog_is_champion fd P_Dog_is_champion (sp_Dog_is_champion K c) ∧ Binds K fd P_Dog_is_champion [] := by
  obtain ⟨fd, F, b⟩ := T.F_Dog_is_champion
  obtain ⟨fd_Dog_has_enough, G_Dog_has_enough, b_Dog_has_enough⟩ := ok_Dog_has_enough (P := P) (w := w) (base := base) T
  exact ⟨fd, F.ok sc_Dog_is_champion (fun vs H Q E h => len_Dog_is_champion h) (fun cdv A outer s H vs Q E hr h => ⟨t_Dog_is_champion K c, d_Dog_is_champion T G_Dog_has_enough b_Dog_has_enough hr, pure_Dog_is_champion T vs H Q E h⟩), b⟩
theorem ok_Dog_is_young_champion (T : Txt K mg c) : ∃ fd, FnOk P w K mg base CX0 2 c.f_Dog_is_young_champion fd P_Dog_is_young_champion (sp_Dog_is_young_champion K c) ∧ Binds K fd P_Dog_is_young_champion [] := by
  obtain ⟨fd, F, b⟩ := T.F_Dog_is_young_champion
  obtain ⟨fd_Dog_has_enough, G_Dog_has_enough, b_Dog_has_enough⟩ := ok_Dog_has_enough (P := P) (w := w) (base := base) T
  exact ⟨fd, F.ok sc_Dog_is_young_champion (fun vs H Q E h => len_Dog_is_young_champion h) (fun cdv A outer s H vs Q E hr h => ⟨t_Dog_is_young_champion K c, d_Dog_is_young_champion T G_Dog_has_enough b_Dog_has_enough hr, pure_Dog_is_young_champion T vs H Q E h⟩), b⟩
theorem ok_Dog_is_old_champion (T : Txt K mg c) : ∃ fd, FnOk P w K mg base CX0 2 c.f_Dog_is_old_champion fd P_Dog_is_old_champion (sp_Dog_is_old_champion K c) ∧ Binds K fd P_Dog_is_old_champion [] := by
  obtain ⟨fd, F, b⟩ := T.F_Dog_is_old_champion
  obtain ⟨fd_Dog_has_enough, G_Dog_has_enough, b_Dog_has_enough⟩ := ok_Dog_has_enough (P := P) (w := w) (base := base) T
  exact ⟨fd, F.ok sc_Dog_is_old_champion (fun vs H Q E h => len_Dog_is_old_champion h) (fun cdv A outer s H vs Q E hr h => ⟨t_Dog_is_old_champion K c, d_Dog_is_old_champion T G_Dog_has_enough b_Dog_has_enough hr, pure_Dog_is_old_champion T vs H Q E h⟩), b⟩
theorem ok_Dog_is_international (T : Txt K mg c) : ∃ fd, FnOk P w K mg base CX0 2 c.f_Dog_is_international fd P_Dog_is_international (sp_Dog_is_international K c) ∧ Binds K fd P_Dog_is_international [] := by
  obtain ⟨fd, F, b⟩ := T.F_Dog_is_international
  obtain ⟨fd_Dog_has_enough, G_Dog_has_enough, b_Dog_has_enough⟩ := ok_Dog_has_enough (P := P) (w := w) (base := base) T
  exact ⟨fd, F.ok sc_Dog_is_international (fun vs H Q E h => len_Dog_is_international h) (fun cdv A outer s H vs Q E hr h => ⟨t_Dog_is_international K c, d_Dog_is_international T G_Dog_has_enough b_Dog_has_enough hr, pure_Dog_is_international T vs H Q E h⟩), b⟩
theorem ok_is_of_age (T : Txt K mg c) : ∃ fd, FnOk P w K mg base CX0 1 c.f_is_of_age fd P_is_of_age (sp_is_of_age K c) ∧ Binds K fd P_is_of_age [] := by
  obtain ⟨fd, F, b⟩ := T.F_is_of_age
  exact ⟨fd, F.ok sc_is_of_age (fun vs H Q E h => len_is_of_age h) (fun cdv A outer s H vs Q E hr h => ⟨t_is_of_age K c, d_is_of_age T  hr, pure_is_of_age T vs H Q E h⟩), b⟩
theorem ok_Show_init (T : Txt K mg c) : ∃ fd, FnOk P w K mg base CX0 1 c.f_Show_init fd P_Show_init (sp_Show_init K c) ∧ Binds K fd P_Show_init [] := by
  obtain ⟨fd, F, b⟩ := T.F_Show_init
  exact ⟨fd, F.ok sc_Show_init (fun vs H Q E h => len_Show_init h) (fun cdv A outer s H vs Q E hr h => ⟨t_Show_init K c, d_Show_init T  hr, pure_Show_init T vs H Q E h⟩), b⟩
theorem ok_Show_class_of (T : Txt K mg c) : ∃ fd, FnOk P w K mg base CX0 1 c.f_Show_class_of fd P_Show_class_of (sp_Show_class_of K c) ∧ Binds K fd P_Show_class_of [] := by
  obtain ⟨fd, F, b⟩ := T.F_Show_class_of
  exact ⟨fd, F.ok sc_Show_class_of (fun vs H Q E h => len_Show_class_of h) (fun cdv A outer s H vs Q E hr h => ⟨t_Show_class_of K c, d_Show_class_of T  hr, pure_Show_class_of T vs H Q E h⟩), b⟩
theorem ok_Show_grade_of (T : Txt K mg c) : ∃ fd, FnOk P w K mg base CX0 1 c.f_Show_grade_of fd P_Show_grade_of (sp_Show_grade_of K c) ∧ Binds K fd P_Show_grade_of [] := by
  obtain ⟨fd, F, b⟩ := T.F_Show_grade_of
  exact ⟨fd, F.ok sc_Show_grade_of (fun vs H Q E h => len_Show_grade_of h) (fun cdv A outer s H vs Q E hr h => ⟨t_Show_grade_of K c, d_Show_grade_of T  hr, pure_Show_grade_of T vs H Q E h⟩), b⟩
theorem ok_Show_placed (T : Txt K mg c) : ∃ fd, FnOk P w K mg base CX0 2 c.f_Show_placed fd P_Show_placed (sp_Show_placed K c) ∧ Binds K fd P_Show_placed [] := by
  obtain ⟨fd, F, b⟩ := T.F_Show_placed
  obtain ⟨fd_Show_grade_of, G_Show_grade_of, b_Show_grade_of⟩ := ok_Show_grade_of (P := P) (w := w) (base := base) T
  exact ⟨fd, F.ok sc_Show_placed (fun vs H Q E h => len_Show_placed h) (fun cdv A outer s H vs Q E hr h => ⟨t_Show_placed K c, d_Show_placed T G_Show_grade_of b_Show_grade_of hr, pure_Show_placed T vs H Q E h⟩), b⟩
theorem ok_Show_firsts (T : Txt K mg c) : ∃ fd, FnOk P w K mg base CX0 3 c.f_Show_firsts fd P_Show_firsts (sp_Show_firsts K c) ∧ Binds K fd P_Show_firsts [] := by
  obtain ⟨fd, F, b⟩ := T.F_Show_firsts
  obtain ⟨fd_Show_placed, G_Show_placed, b_Show_placed⟩ := ok_Show_placed (P := P) (w := w) (base := base) T
  exact ⟨fd, F.ok sc_Show_firsts (fun vs H Q E h => len_Show_firsts h) (fun cdv A outer s H vs Q E hr h => ⟨t_Show_firsts K c, d_Show_firsts T G_Show_placed b_Show_placed hr, pure_Show_firsts T vs H Q E h⟩), b⟩
theorem ok_Show_holder (T : Txt K mg c) : ∃ fd, FnOk P w K mg base CX0 1 c.f_Show_holder fd P_Show_holder (sp_Show_holder K c) ∧ Binds K fd P_Show_holder [] := by
  obtain ⟨fd, F, b⟩ := T.F_Show_holder
  exact ⟨fd, F.ok sc_Show_holder (fun vs H Q E h => len_Show_holder h) (fun cdv A outer s H vs Q E hr h => ⟨t_Show_holder K c, d_Show_holder T  hr, pure_Show_holder T vs H Q E h⟩), b⟩
theorem ok_Show_is_given (T : Txt K mg c) : ∃ fd, FnOk P w K mg base CX0 1 c.f_Show_is_given fd P_Show_is_given (sp_Show_is_given K c) ∧ Binds K fd P_Show_is_given [] := by
  obtain ⟨fd, F, b⟩ := T.F_Show_is_given
  exact ⟨fd, F.ok sc_Show_is_given (fun vs H Q E h => len_Show_is_given h) (fun cdv A outer s H vs Q E hr h => ⟨t_Show_is_given K c, d_Show_is_given T  hr, pure_Show_is_given T vs H Q E h⟩), b⟩
theorem ok_Show_bests (T : Txt K mg c) : ∃ fd, FnOk P w K mg base CX0 3 c.f_Show_bests fd P_Show_bests (sp_Show_bests K c) ∧ Binds K fd P_Show_bests [] := by
  obtain ⟨fd, F, b⟩ := T.F_Show_bests
  obtain ⟨fd_Show_placed, G_Show_placed, b_Show_placed⟩ := ok_Show_placed (P := P) (w := w) (base := base) T
  obtain ⟨fd_Show_holder, G_Show_holder, b_Show_holder⟩ := ok_Show_holder (P := P) (w := w) (base := base) T
  exact ⟨fd, F.ok sc_Show_bests (fun vs H Q E h => len_Show_bests h) (fun cdv A outer s H vs Q E hr h => ⟨t_Show_bests K c, d_Show_bests T G_Show_placed b_Show_placed G_Show_holder b_Show_holder hr, pure_Show_bests T vs H Q E h⟩), b⟩
theorem ok_Show_next_ones (T : Txt K mg c) : ∃ fd, FnOk P w K mg base CX0 4 c.f_Show_next_ones fd P_Show_next_ones (sp_Show_next_ones K c) ∧ Binds K fd P_Show_next_ones [] := by
  obtain ⟨fd, F, b⟩ := T.F_Show_next_ones
  obtain ⟨fd_Show_class_of, G_Show_class_of, b_Show_class_of⟩ := ok_Show_class_of (P := P) (w := w) (base := base) T
  obtain ⟨fd_Show_placed, G_Show_placed, b_Show_placed⟩ := ok_Show_placed (P := P) (w := w) (base := base) T
  obtain ⟨fd_Show_firsts, G_Show_firsts, b_Show_firsts⟩ := ok_Show_firsts (P := P) (w := w) (base := base) T
  obtain ⟨fd_Show_holder, G_Show_holder, b_Show_holder⟩ := ok_Show_holder (P := P) (w := w) (base := base) T
  exact ⟨fd, F.ok sc_Show_next_ones (fun vs H Q E h => len_Show_next_ones h) (fun cdv A outer s H vs Q E hr h => ⟨t_Show_next_ones K c, d_Show_next_ones T G_Show_class_of b_Show_class_of G_Show_placed b_Show_placed G_Show_firsts b_Show_firsts G_Show_holder b_Show_holder hr, pure_Show_next_ones T vs H Q E h⟩), b⟩
theorem ok_Show_may_have (T : Txt K mg c) : ∃ fd, FnOk P w K mg base CX0 5 c.f_Show_may_have fd P_Show_may_have (sp_Show_may_have K c) ∧ Binds K fd P_Show_may_have [] := by
  obtain ⟨fd, F, b⟩ := T.F_Show_may_have
  obtain ⟨fd_Show_holder, G_Show_holder, b_Show_holder⟩ := ok_Show_holder (P := P) (w := w) (base := base) T
  obtain ⟨fd_Show_is_given, G_Show_is_given, b_Show_is_given⟩ := ok_Show_is_given (P := P) (w := w) (base := base) T
  obtain ⟨fd_Show_bests, G_Show_bests, b_Show_bests⟩ := ok_Show_bests (P := P) (w := w) (base := base) T
  obtain ⟨fd_Show_next_ones, G_Show_next_ones, b_Show_next_ones⟩ := ok_Show_next_ones (P := P) (w := w) (base := base) T
  obtain ⟨fd_Show_firsts, G_Show_firsts, b_Show_firsts⟩ := ok_Show_firsts (P := P) (w := w) (base := base) T
  exact ⟨fd, F.ok sc_Show_may_have (fun vs H Q E h => len_Show_may_have h) (fun cdv A outer s H vs Q E hr h => ⟨t_Show_may_have K c, d_Show_may_have T G_Show_holder b_Show_holder G_Show_is_given b_Show_is_given G_Show_bests b_Show_bests G_Show_next_ones b_Show_next_ones G_Show_firsts b_Show_firsts hr, pure_Show_may_have T vs H Q E h⟩), b⟩
theorem ok_Show_counts_as (T : Txt K mg c) : ∃ fd, FnOk P w K mg base CX0 3 c.f_Show_counts_as fd P_Show_counts_as (sp_Show_counts_as K c) ∧ Binds K fd P_Show_counts_as [] := by
  obtain ⟨fd, F, b⟩ := T.F_Show_counts_as
  obtain ⟨fd_Show_holder, G_Show_holder, b_Show_holder⟩ := ok_Show_holder (P := P) (w := w) (base := base) T
  obtain ⟨fd_Dog_is_international, G_Dog_is_international, b_Dog_is_international⟩ := ok_Dog_is_international (P := P) (w := w) (base := base) T
  obtain ⟨fd_Dog_is_champion, G_Dog_is_champion, b_Dog_is_champion⟩ := ok_Dog_is_champion (P := P) (w := w) (base := base) T
  exact ⟨fd, F.ok sc_Show_counts_as (fun vs H Q E h => len_Show_counts_as h) (fun cdv A outer s H vs Q E hr h => ⟨t_Show_counts_as K c, d_Show_counts_as T G_Show_holder b_Show_holder G_Dog_is_international b_Dog_is_international G_Dog_is_champion b_Dog_is_champion hr, pure_Show_counts_as T vs H Q E h⟩), b⟩
theorem ok_Show_kept_awards (T : Txt K mg c) : ∃ fd, FnOk P w K mg base CX0 4 c.f_Show_kept_awards fd P_Show_kept_awards (sp_Show_kept_awards K c) ∧ Binds K fd P_Show_kept_awards [] := by
  obtain ⟨fd, F, b⟩ := T.F_Show_kept_awards
  obtain ⟨fd_Show_counts_as, G_Show_counts_as, b_Show_counts_as⟩ := ok_Show_counts_as (P := P) (w := w) (base := base) T
  obtain ⟨fd_Show_placed, G_Show_placed, b_Show_placed⟩ := ok_Show_placed (P := P) (w := w) (base := base) T
  exact ⟨fd, F.ok sc_Show_kept_awards (fun vs H Q E h => len_Show_kept_awards h) (fun cdv A outer s H vs Q E hr h => ⟨t_Show_kept_awards K c, d_Show_kept_awards T G_Show_counts_as b_Show_counts_as G_Show_placed b_Show_placed hr, pure_Show_kept_awards T vs H Q E h⟩), b⟩
theorem ok_Refusal_init (T : Txt K mg c) : ∃ fd, FnOk P w K mg base CX0 1 c.f_Refusal_init fd P_Refusal_init (sp_Refusal_init K c) ∧ Binds K fd P_Refusal_init [] := by
  obtain ⟨fd, F, b⟩ := T.F_Refusal_init
  exact ⟨fd, F.ok sc_Refusal_init (fun vs H Q E h => len_Refusal_init h) (fun cdv A outer s H vs Q E hr h => ⟨t_Refusal_init K c, d_Refusal_init T  hr, pure_Refusal_init T vs H Q E h⟩), b⟩
theorem ok_refuse_if (T : Txt K mg c) : ∃ fd, FnOk P w K mg base (L2.CX P w) 3 c.f_refuse_if fd P_refuse_if (sp_refuse_if K c) ∧ Binds K fd P_refuse_if [] := by
  obtain ⟨fd, F, b⟩ := T.F_refuse_if
  obtain ⟨fd_Refusal_init, G_Refusal_init, b_Refusal_init⟩ := ok_Refusal_init (P := P) (w := w) (base := base) T
  exact ⟨fd, F.okX sc_refuse_if (fun vs H Q E h => len_refuse_if h) (fun cdv A outer s H vs Q E hr h => ⟨t_refuse_if K c E, d_refuse_if T G_Refusal_init b_Refusal_init hr, pure_refuse_if T vs H Q E h⟩), b⟩
theorem ok_is_class (T : Txt K mg c) : ∃ fd, FnOk P w K mg base CX0 1 c.f_is_class fd P_is_class (sp_is_class K c) ∧ Binds K fd P_is_class [] := by
  obtain ⟨fd, F, b⟩ := T.F_is_class
  exact ⟨fd, F.ok sc_is_class (fun vs H Q E h => len_is_class h) (fun cdv A outer s H vs Q E hr h => ⟨t_is_class K c, d_is_class T  hr, pure_is_class T vs H Q E h⟩), b⟩
theorem ok_yes (T : Txt K mg c) : ∃ fd, FnOk P w K mg base CX0 1 c.f_yes fd P_yes (sp_yes K c) ∧ Binds K fd P_yes [] := by
  obtain ⟨fd, F, b⟩ := T.F_yes
  exact ⟨fd, F.ok sc_yes (fun vs H Q E h => len_yes h) (fun cdv A outer s H vs Q E hr h => ⟨t_yes K c, d_yes T  hr, pure_yes T vs H Q E h⟩), b⟩
theorem ok_Book_init (T : Txt K mg c) : ∃ fd, FnOk P w K mg base CX0 1 c.f_Book_init fd P_Book_init (sp_Book_init K c) ∧ Binds K fd P_Book_init [] := by
  obtain ⟨fd, F, b⟩ := T.F_Book_init
  exact ⟨fd, F.ok sc_Book_init (fun vs H Q E h => len_Book_init h) (fun cdv A outer s H vs Q E hr h => ⟨t_Book_init K c, d_Book_init T  hr, pure_Book_init T vs H Q E h⟩), b⟩
theorem ok_Book_has_dog (T : Txt K mg c) : ∃ fd, FnOk P w K mg base CX0 1 c.f_Book_has_dog fd P_Book_has_dog (sp_Book_has_dog K c) ∧ Binds K fd P_Book_has_dog [] := by
  obtain ⟨fd, F, b⟩ := T.F_Book_has_dog
  exact ⟨fd, F.ok sc_Book_has_dog (fun vs H Q E h => len_Book_has_dog h) (fun cdv A outer s H vs Q E hr h => ⟨t_Book_has_dog K c, d_Book_has_dog T  hr, pure_Book_has_dog T vs H Q E h⟩), b⟩
theorem ok_Book_show_on (T : Txt K mg c) : ∃ fd, FnOk P w K mg base (L2.CX P w) 4 c.f_Book_show_on fd P_Book_show_on (sp_Book_show_on K c) ∧ Binds K fd P_Book_show_on [] := by
  obtain ⟨fd, F, b⟩ := T.F_Book_show_on
  obtain ⟨fd_refuse_if, G_refuse_if, b_refuse_if⟩ := ok_refuse_if (P := P) (w := w) (base := base) T
  exact ⟨fd, F.okX sc_Book_show_on (fun vs H Q E h => len_Book_show_on h) (fun cdv A outer s H vs Q E hr h => ⟨t_Book_show_on K c E, d_Book_show_on T G_refuse_if b_refuse_if hr, pure_Book_show_on T vs H Q E h⟩), b⟩
theorem ok_Book_add_dog (T : Txt K mg c) : ∃ fd, FnOk P w K mg base (L2.CX P w) 4 c.f_Book_add_dog fd P_Book_add_dog (sp_Book_add_dog K c) ∧ Binds K fd P_Book_add_dog [] := by
  obtain ⟨fd, F, b⟩ := T.F_Book_add_dog
  obtain ⟨fd_Dog_init, G_Dog_init, b_Dog_init⟩ := ok_Dog_init (P := P) (w := w) (base := base) T
  obtain ⟨fd_refuse_if, G_refuse_if, b_refuse_if⟩ := ok_refuse_if (P := P) (w := w) (base := base) T
  exact ⟨fd, F.okX sc_Book_add_dog (fun vs H Q E h => len_Book_add_dog h) (fun cdv A outer s H vs Q E hr h => ⟨t_Book_add_dog K c E, d_Book_add_dog T G_Dog_init b_Dog_init G_refuse_if b_refuse_if hr, pure_Book_add_dog T vs H Q E h⟩), b⟩
theorem ok_Book_begin_show (T : Txt K mg c) : ∃ fd, FnOk P w K mg base (L2.CX P w) 4 c.f_Book_begin_show fd P_Book_begin_show (sp_Book_begin_show K c) ∧ Binds K fd P_Book_begin_show [] := by
  obtain ⟨fd, F, b⟩ := T.F_Book_begin_show
  obtain ⟨fd_Show_init, G_Show_init, b_Show_init⟩ := ok_Show_init (P := P) (w := w) (base := base) T
  obtain ⟨fd_refuse_if, G_refuse_if, b_refuse_if⟩ := ok_refuse_if (P := P) (w := w) (base := base) T
  exact ⟨fd, F.okX sc_Book_begin_show (fun vs H Q E h => len_Book_begin_show h) (fun cdv A outer s H vs Q E hr h => ⟨t_Book_begin_show K c E, d_Book_begin_show T G_Show_init b_Show_init G_refuse_if b_refuse_if hr, pure_Book_begin_show T vs H Q E h⟩), b⟩
theorem ok_Book_enter (T : Txt K mg c) : ∃ fd, FnOk P w K mg base (L2.CX P w) 5 c.f_Book_enter fd P_Book_enter (sp_Book_enter K c) ∧ Binds K fd P_Book_enter [] := by
  obtain ⟨fd, F, b⟩ := T.F_Book_enter
  obtain ⟨fd_Dog_is_champion, G_Dog_is_champion, b_Dog_is_champion⟩ := ok_Dog_is_champion (P := P) (w := w) (base := base) T
  obtain ⟨fd_Dog_is_international, G_Dog_is_international, b_Dog_is_international⟩ := ok_Dog_is_international (P := P) (w := w) (base := base) T
  obtain ⟨fd_refuse_if, G_refuse_if, b_refuse_if⟩ := ok_refuse_if (P := P) (w := w) (base := base) T
  obtain ⟨fd_is_of_age, G_is_of_age, b_is_of_age⟩ := ok_is_of_age (P := P) (w := w) (base := base) T
  obtain ⟨fd_Show_class_of, G_Show_class_of, b_Show_class_of⟩ := ok_Show_class_of (P := P) (w := w) (base := base) T
  obtain ⟨fd_Book_show_on, G_Book_show_on, b_Book_show_on⟩ := ok_Book_show_on (P := P) (w := w) (base := base) T
  obtain ⟨fd_Book_has_dog, G_Book_has_dog, b_Book_has_dog⟩ := ok_Book_has_dog (P := P) (w := w) (base := base) T
  obtain ⟨fd_is_class, G_is_class, b_is_class⟩ := ok_is_class (P := P) (w := w) (base := base) T
  exact ⟨fd, F.okX sc_Book_enter (fun vs H Q E h => len_Book_enter h) (fun cdv A outer s H vs Q E hr h => ⟨t_Book_enter K c E, d_Book_enter T G_Dog_is_champion b_Dog_is_champion G_Dog_is_international b_Dog_is_international G_refuse_if b_refuse_if G_is_of_age b_is_of_age G_Show_class_of b_Show_class_of G_Book_show_on b_Book_show_on G_Book_has_dog b_Book_has_dog G_is_class b_is_class hr, pure_Book_enter T vs H Q E h⟩), b⟩
theorem ok_Book_grade (T : Txt K mg c) : ∃ fd, FnOk P w K mg base (L2.CX P w) 5 c.f_Book_grade fd P_Book_grade (sp_Book_grade K c) ∧ Binds K fd P_Book_grade [] := by
  obtain ⟨fd, F, b⟩ := T.F_Book_grade
  obtain ⟨fd_refuse_if, G_refuse_if, b_refuse_if⟩ := ok_refuse_if (P := P) (w := w) (base := base) T
  obtain ⟨fd_Show_class_of, G_Show_class_of, b_Show_class_of⟩ := ok_Show_class_of (P := P) (w := w) (base := base) T
  obtain ⟨fd_Book_show_on, G_Book_show_on, b_Book_show_on⟩ := ok_Book_show_on (P := P) (w := w) (base := base) T
  obtain ⟨fd_Book_has_dog, G_Book_has_dog, b_Book_has_dog⟩ := ok_Book_has_dog (P := P) (w := w) (base := base) T
  exact ⟨fd, F.okX sc_Book_grade (fun vs H Q E h => len_Book_grade h) (fun cdv A outer s H vs Q E hr h => ⟨t_Book_grade K c E, d_Book_grade T G_refuse_if b_refuse_if G_Show_class_of b_Show_class_of G_Book_show_on b_Book_show_on G_Book_has_dog b_Book_has_dog hr, pure_Book_grade T vs H Q E h⟩), b⟩
theorem ok_Book_row (T : Txt K mg c) : ∃ fd, FnOk P w K mg base (L2.CX P w) 5 c.f_Book_row fd P_Book_row (sp_Book_row K c) ∧ Binds K fd P_Book_row [] := by
  obtain ⟨fd, F, b⟩ := T.F_Book_row
  obtain ⟨fd_refuse_if, G_refuse_if, b_refuse_if⟩ := ok_refuse_if (P := P) (w := w) (base := base) T
  obtain ⟨fd_Show_class_of, G_Show_class_of, b_Show_class_of⟩ := ok_Show_class_of (P := P) (w := w) (base := base) T
  obtain ⟨fd_Show_grade_of, G_Show_grade_of, b_Show_grade_of⟩ := ok_Show_grade_of (P := P) (w := w) (base := base) T
  obtain ⟨fd_Book_show_on, G_Book_show_on, b_Book_show_on⟩ := ok_Book_show_on (P := P) (w := w) (base := base) T
  obtain ⟨fd_Book_has_dog, G_Book_has_dog, b_Book_has_dog⟩ := ok_Book_has_dog (P := P) (w := w) (base := base) T
  obtain ⟨fd_is_class, G_is_class, b_is_class⟩ := ok_is_class (P := P) (w := w) (base := base) T
  exact ⟨fd, F.okX sc_Book_row (fun vs H Q E h => len_Book_row h) (fun cdv A outer s H vs Q E hr h => ⟨t_Book_row K c E, d_Book_row T G_refuse_if b_refuse_if G_Show_class_of b_Show_class_of G_Show_grade_of b_Show_grade_of G_Book_show_on b_Book_show_on G_Book_has_dog b_Book_has_dog G_is_class b_is_class hr, pure_Book_row T vs H Q E h⟩), b⟩
theorem ok_Book_award (T : Txt K mg c) : ∃ fd, FnOk P w K mg base (L2.CX P w) 6 c.f_Book_award fd P_Book_award (sp_Book_award K c) ∧ Binds K fd P_Book_award [] := by
  obtain ⟨fd, F, b⟩ := T.F_Book_award
  obtain ⟨fd_Show_may_have, G_Show_may_have, b_Show_may_have⟩ := ok_Show_may_have (P := P) (w := w) (base := base) T
  obtain ⟨fd_refuse_if, G_refuse_if, b_refuse_if⟩ := ok_refuse_if (P := P) (w := w) (base := base) T
  obtain ⟨fd_Book_show_on, G_Book_show_on, b_Book_show_on⟩ := ok_Book_show_on (P := P) (w := w) (base := base) T
  obtain ⟨fd_Book_has_dog, G_Book_has_dog, b_Book_has_dog⟩ := ok_Book_has_dog (P := P) (w := w) (base := base) T
  exact ⟨fd, F.okX sc_Book_award (fun vs H Q E h => len_Book_award h) (fun cdv A outer s H vs Q E hr h => ⟨t_Book_award K c E, d_Book_award T G_Show_may_have b_Show_may_have G_refuse_if b_refuse_if G_Book_show_on b_Book_show_on G_Book_has_dog b_Book_has_dog hr, pure_Book_award T vs H Q E h⟩), b⟩
theorem ok_Book_close_show (T : Txt K mg c) : ∃ fd, FnOk P w K mg base (L2.CX P w) 5 c.f_Book_close_show fd P_Book_close_show (sp_Book_close_show K c) ∧ Binds K fd P_Book_close_show [] := by
  obtain ⟨fd, F, b⟩ := T.F_Book_close_show
  obtain ⟨fd_Award_init, G_Award_init, b_Award_init⟩ := ok_Award_init (P := P) (w := w) (base := base) T
  obtain ⟨fd_Show_kept_awards, G_Show_kept_awards, b_Show_kept_awards⟩ := ok_Show_kept_awards (P := P) (w := w) (base := base) T
  obtain ⟨fd_Book_show_on, G_Book_show_on, b_Book_show_on⟩ := ok_Book_show_on (P := P) (w := w) (base := base) T
  exact ⟨fd, F.okX sc_Book_close_show (fun vs H Q E h => len_Book_close_show h) (fun cdv A outer s H vs Q E hr h => ⟨t_Book_close_show K c E, d_Book_close_show T G_Award_init b_Award_init G_Show_kept_awards b_Show_kept_awards G_Book_show_on b_Book_show_on hr, pure_Book_close_show T vs H Q E h⟩), b⟩
theorem ok_Book_may (T : Txt K mg c) : ∃ fd, FnOk P w K mg base (L2.CX P w) 6 c.f_Book_may fd P_Book_may (sp_Book_may K c) ∧ Binds K fd P_Book_may [] := by
  obtain ⟨fd, F, b⟩ := T.F_Book_may
  obtain ⟨fd_Book_show_on, G_Book_show_on, b_Book_show_on⟩ := ok_Book_show_on (P := P) (w := w) (base := base) T
  obtain ⟨fd_Show_may_have, G_Show_may_have, b_Show_may_have⟩ := ok_Show_may_have (P := P) (w := w) (base := base) T
  obtain ⟨fd_refuse_if, G_refuse_if, b_refuse_if⟩ := ok_refuse_if (P := P) (w := w) (base := base) T
  exact ⟨fd, F.okX sc_Book_may (fun vs H Q E h => len_Book_may h) (fun cdv A outer s H vs Q E hr h => ⟨t_Book_may K c E, d_Book_may T G_Book_show_on b_Book_show_on G_Show_may_have b_Show_may_have G_refuse_if b_refuse_if hr, pure_Book_may T vs H Q E h⟩), b⟩
theorem ok_Book_titles (T : Txt K mg c) : ∃ fd, FnOk P w K mg base (L2.CX P w) 4 c.f_Book_titles fd P_Book_titles (sp_Book_titles K c) ∧ Binds K fd P_Book_titles [] := by
  obtain ⟨fd, F, b⟩ := T.F_Book_titles
  obtain ⟨fd_Dog_is_international, G_Dog_is_international, b_Dog_is_international⟩ := ok_Dog_is_international (P := P) (w := w) (base := base) T
  obtain ⟨fd_yes, G_yes, b_yes⟩ := ok_yes (P := P) (w := w) (base := base) T
  obtain ⟨fd_Dog_is_old_champion, G_Dog_is_old_champion, b_Dog_is_old_champion⟩ := ok_Dog_is_old_champion (P := P) (w := w) (base := base) T
  obtain ⟨fd_Dog_is_young_champion, G_Dog_is_young_champion, b_Dog_is_young_champion⟩ := ok_Dog_is_young_champion (P := P) (w := w) (base := base) T
  obtain ⟨fd_Dog_is_champion, G_Dog_is_champion, b_Dog_is_champion⟩ := ok_Dog_is_champion (P := P) (w := w) (base := base) T
  obtain ⟨fd_Book_has_dog, G_Book_has_dog, b_Book_has_dog⟩ := ok_Book_has_dog (P := P) (w := w) (base := base) T
  obtain ⟨fd_refuse_if, G_refuse_if, b_refuse_if⟩ := ok_refuse_if (P := P) (w := w) (base := base) T
  exact ⟨fd, F.okX sc_Book_titles (fun vs H Q E h => len_Book_titles h) (fun cdv A outer s H vs Q E hr h => ⟨t_Book_titles K c E, d_Book_titles T G_Dog_is_international b_Dog_is_international G_yes b_yes G_Dog_is_old_champion b_Dog_is_old_champion G_Dog_is_young_champion b_Dog_is_young_champion G_Dog_is_champion b_Dog_is_champion G_Book_has_dog b_Book_has_dog G_refuse_if b_refuse_if hr, pure_Book_titles T vs H Q E h⟩), b⟩
theorem ok_Book_kept (T : Txt K mg c) : ∃ fd, FnOk P w K mg base (L2.CX P w) 4 c.f_Book_kept fd P_Book_kept (sp_Book_kept K c) ∧ Binds K fd P_Book_kept [] := by
  obtain ⟨fd, F, b⟩ := T.F_Book_kept
  obtain ⟨fd_Book_has_dog, G_Book_has_dog, b_Book_has_dog⟩ := ok_Book_has_dog (P := P) (w := w) (base := base) T
  obtain ⟨fd_refuse_if, G_refuse_if, b_refuse_if⟩ := ok_refuse_if (P := P) (w := w) (base := base) T
  exact ⟨fd, F.okX sc_Book_kept (fun vs H Q E h => len_Book_kept h) (fun cdv A outer s H vs Q E hr h => ⟨t_Book_kept K c E, d_Book_kept T G_Book_has_dog b_Book_has_dog G_refuse_if b_refuse_if hr, pure_Book_kept T vs H Q E h⟩), b⟩
theorem ok_Book_now (T : Txt K mg c) : ∃ fd, FnOk P w K mg base (L2.CX P w) 5 c.f_Book_now fd P_Book_now (sp_Book_now K c) ∧ Binds K fd P_Book_now [] := by
  obtain ⟨fd, F, b⟩ := T.F_Book_now
  obtain ⟨fd_Show_grade_of, G_Show_grade_of, b_Show_grade_of⟩ := ok_Show_grade_of (P := P) (w := w) (base := base) T
  obtain ⟨fd_Book_show_on, G_Book_show_on, b_Book_show_on⟩ := ok_Book_show_on (P := P) (w := w) (base := base) T
  exact ⟨fd, F.okX sc_Book_now (fun vs H Q E h => len_Book_now h) (fun cdv A outer s H vs Q E hr h => ⟨t_Book_now K c E, d_Book_now T G_Show_grade_of b_Show_grade_of G_Book_show_on b_Book_show_on hr, pure_Book_now T vs H Q E h⟩), b⟩
theorem ok_answer (T : Txt K mg c) : ∃ fd, FnOk P w K mg base (L2.CX P w) 7 c.f_answer fd P_answer (sp_answer K c) ∧ Binds K fd P_answer [] := by
  obtain ⟨fd, F, b⟩ := T.F_answer
  obtain ⟨fd_Book_now, G_Book_now, b_Book_now⟩ := ok_Book_now (P := P) (w := w) (base := base) T
  obtain ⟨fd_Book_kept, G_Book_kept, b_Book_kept⟩ := ok_Book_kept (P := P) (w := w) (base := base) T
  obtain ⟨fd_Book_titles, G_Book_titles, b_Book_titles⟩ := ok_Book_titles (P := P) (w := w) (base := base) T
  obtain ⟨fd_Book_may, G_Book_may, b_Book_may⟩ := ok_Book_may (P := P) (w := w) (base := base) T
  obtain ⟨fd_Book_close_show, G_Book_close_show, b_Book_close_show⟩ := ok_Book_close_show (P := P) (w := w) (base := base) T
  obtain ⟨fd_Book_award, G_Book_award, b_Book_award⟩ := ok_Book_award (P := P) (w := w) (base := base) T
  obtain ⟨fd_Book_row, G_Book_row, b_Book_row⟩ := ok_Book_row (P := P) (w := w) (base := base) T
  obtain ⟨fd_Book_grade, G_Book_grade, b_Book_grade⟩ := ok_Book_grade (P := P) (w := w) (base := base) T
  obtain ⟨fd_Book_enter, G_Book_enter, b_Book_enter⟩ := ok_Book_enter (P := P) (w := w) (base := base) T
  obtain ⟨fd_Book_begin_show, G_Book_begin_show, b_Book_begin_show⟩ := ok_Book_begin_show (P := P) (w := w) (base := base) T
  obtain ⟨fd_Book_add_dog, G_Book_add_dog, b_Book_add_dog⟩ := ok_Book_add_dog (P := P) (w := w) (base := base) T
  exact ⟨fd, F.okX sc_answer (fun vs H Q E h => len_answer h) (fun cdv A outer s H vs Q E hr h => ⟨t_answer K c E, d_answer T G_Book_now b_Book_now G_Book_kept b_Book_kept G_Book_titles b_Book_titles G_Book_may b_Book_may G_Book_close_show b_Book_close_show G_Book_award b_Book_award G_Book_row b_Book_row G_Book_grade b_Book_grade G_Book_enter b_Book_enter G_Book_begin_show b_Book_begin_show G_Book_add_dog b_Book_add_dog hr, pure_answer T vs H Q E h⟩), b⟩
theorem ok_read_call (T : Txt K mg c) : ∃ fd, FnOk P w K mg base CX0 1 c.f_read_call fd P_read_call (sp_read_call K c) ∧ Binds K fd P_read_call [] := by
  obtain ⟨fd, F, b⟩ := T.F_read_call
  exact ⟨fd, F.ok sc_read_call (fun vs H Q E h => len_read_call h) (fun cdv A outer s H vs Q E hr h => ⟨t_read_call K c, d_read_call T  hr, pure_read_call T vs H Q E h⟩), b⟩
theorem ok_answers (T : Txt K mg c) {fd : FuncData} (F : Fun K "answers" "answers" s_answers c.f_answers fd) : FnOk P w K mg base CX0 8 c.f_answers fd P_answers (sp_answers K c) := by
  obtain ⟨fd_Book_init, G_Book_init, b_Book_init⟩ := ok_Book_init (P := P) (w := w) (base := base) T
  obtain ⟨fd_answer, G_answer, b_answer⟩ := ok_answer (P := P) (w := w) (base := base) T
  obtain ⟨fd_read_call, G_read_call, b_read_call⟩ := ok_read_call (P := P) (w := w) (base := base) T
  exact F.ok sc_answers (fun vs H Q E h => len_answers h) (fun cdv A outer s H vs Q E hr h => ⟨t_answers K c, d_answers T G_Book_init b_Book_init G_answer b_answer G_read_call b_read_call hr, pure_answers T vs H Q E h⟩)
end
end Ds

/-! Printed by gen.py: the end. -/
namespace Ds
open PySem PySem.Spec PyProof.Rows L2 Evl

theorem exm_self {K : PySem.W.Frag} {S : Addr} (h1 : PySem.W.subIn K (.ref S) (.type "BaseException") = some true) (h2 : PySem.W.isClsIn K S = true) (h3 : PySem.W.typeIn K (.ref S) = some (.type "type")) (h4 : PySem.W.subIn K (.ref S) (.ref S) = some true) :
    PySem.W.exmOne K (.ref S) (.ref S) = some true := by
  have e1 : (PySem.W.subIn K (.ref S) (.type "BaseException") == some true) = true := by rw [h1] <;> rfl
  have e2 : ((PySem.W.clsIn K S).isSome && PySem.W.typeIn K (.ref S) == some (.type "type")) = true := by
    have h2' : (PySem.W.clsIn K S).isSome = true := h2
    rw [h2', h3] <;> rfl
  show (if (PySem.W.subIn K (.ref S) (.type "BaseException") == some true) = true then (if ((PySem.W.clsIn K S).isSome && PySem.W.typeIn K (.ref S) == some (.type "type")) = true then PySem.W.subIn K (.ref S) (.ref S) else none) else none) = some true
  rw [if_pos e1, if_pos e2]
  exact h4
theorem tup_of {K : PySem.W.Frag} {a : Addr} {od : Option Addr} {its : Array Value} {n : Nat} {sl : Array (Option Value)} {xs : List V} (l : K.lookup a = some ⟨.type "tuple", od, .seq its n, sl⟩) (hz : its.size ≤ 100) (h : Vals xs its.toList) (H : Hp) : SqT K H a xs :=
  .inr ⟨_, its, n, l, rfl, rfl, Nat.le_trans hz (by decide), h⟩
theorem all_mk {K : PySem.W.Frag} {h : Heap} {mg : Str → Option Value} (X : K.In h) (G : h.Ns mainGlobals mg)
    {C_Award C_Dog C_Show C_Refusal C_Book f_Award_init f_Dog_init f_Dog_has_enough f_Dog_is_champion f_Dog_is_young_champion f_Dog_is_old_champion f_Dog_is_international f_is_of_age f_Show_init f_Show_class_of f_Show_grade_of f_Show_placed f_Show_firsts f_Show_holder f_Show_is_given f_Show_may_have f_Show_next_ones f_Show_bests f_Show_counts_as f_Show_kept_awards f_Refusal_init f_refuse_if f_is_class f_yes f_Book_init f_Book_has_dog f_Book_show_on f_Book_add_dog f_Book_begin_show f_Book_enter f_Book_grade f_Book_row f_Book_award f_Book_close_show f_Book_may f_Book_titles f_Book_kept f_Book_now f_answer f_read_call f_answers a_GROWN a_AGES a_AWARDS a_FORMS : Addr}
    {nm q : Str} {N : Addr} {bs : List Value} {sn : List Str} {sub : List Value} {ab : Bool} {col : Option Bool} {dd : Option Addr} {m0 m1 m2 m3 m5 : Option Value}
    {oc_Award_init kV_Award_init dc_Award_init pm_Award_init cd_Award_init ct_Award_init : Value} {od_Award_init an_Award_init : Option Addr} {sl_Award_init : Array (Option Value)}
    {oc_Dog_init kV_Dog_init dc_Dog_init pm_Dog_init cd_Dog_init ct_Dog_init : Value} {od_Dog_init an_Dog_init : Option Addr} {sl_Dog_init : Array (Option Value)}
    {oc_Dog_has_enough kV_Dog_has_enough dc_Dog_has_enough pm_Dog_has_enough cd_Dog_has_enough ct_Dog_has_enough : Value} {od_Dog_has_enough an_Dog_has_enough : Option Addr} {sl_Dog_has_enough : Array (Option Value)}
    {oc_Dog_is_champion kV_Dog_is_champion dc_Dog_is_champion pm_Dog_is_champion cd_Dog_is_champion ct_Dog_is_champion : Value} {od_Dog_is_champion an_Dog_is_champion : Option Addr} {sl_Dog_is_champion : Array (Option Value)}
    {oc_Dog_is_young_champion kV_Dog_is_young_champion dc_Dog_is_young_champion pm_Dog_is_young_champion cd_Dog_is_young_champion ct_Dog_is_young_champion : Value} {od_Dog_is_young_champion an_Dog_is_young_champion : Option Addr} {sl_Dog_is_young_champion : Array (Option Value)}
    {oc_Dog_is_old_champion kV_Dog_is_old_champion dc_Dog_is_old_champion pm_Dog_is_old_champion cd_Dog_is_old_champion ct_Dog_is_old_champion : Value} {od_Dog_is_old_champion an_Dog_is_old_champion : Option Addr} {sl_Dog_is_old_champion : Array (Option Value)}
    {oc_Dog_is_international kV_Dog_is_international dc_Dog_is_international pm_Dog_is_international cd_Dog_is_international ct_Dog_is_international : Value} {od_Dog_is_international an_Dog_is_international : Option Addr} {sl_Dog_is_international : Array (Option Value)}
    {oc_is_of_age kV_is_of_age dc_is_of_age pm_is_of_age cd_is_of_age ct_is_of_age : Value} {od_is_of_age an_is_of_age : Option Addr} {sl_is_of_age : Array (Option Value)}
    {oc_Show_init kV_Show_init dc_Show_init pm_Show_init cd_Show_init ct_Show_init : Value} {od_Show_init an_Show_init : Option Addr} {sl_Show_init : Array (Option Value)}
    {oc_Show_class_of kV_Show_class_of dc_Show_class_of pm_Show_class_of cd_Show_class_of ct_Show_class_of : Value} {od_Show_class_of an_Show_class_of : Option Addr} {sl_Show_class_of : Array (Option Value)}
    {oc_Show_grade_of kV_Show_grade_of dc_Show_grade_of pm_Show_grade_of cd_Show_grade_of ct_Show_grade_of : Value} {od_Show_grade_of an_Show_grade_of : Option Addr} {sl_Show_grade_of : Array (Option Value)}
    {oc_Show_placed kV_Show_placed dc_Show_placed pm_Show_placed cd_Show_placed ct_Show_placed : Value} {od_Show_placed an_Show_placed : Option Addr} {sl_Show_placed : Array (Option Value)}
    {oc_Show_firsts kV_Show_firsts dc_Show_firsts pm_Show_firsts cd_Show_firsts ct_Show_firsts : Value} {od_Show_firsts an_Show_firsts : Option Addr} {sl_Show_firsts : Array (Option Value)}
    {oc_Show_holder kV_Show_holder dc_Show_holder pm_Show_holder cd_Show_holder ct_Show_holder : Value} {od_Show_holder an_Show_holder : Option Addr} {sl_Show_holder : Array (Option Value)}
    {oc_Show_is_given kV_Show_is_given dc_Show_is_given pm_Show_is_given cd_Show_is_given ct_Show_is_given : Value} {od_Show_is_given an_Show_is_given : Option Addr} {sl_Show_is_given : Array (Option Value)}
    {oc_Show_may_have kV_Show_may_have dc_Show_may_have pm_Show_may_have cd_Show_may_have ct_Show_may_have : Value} {od_Show_may_have an_Show_may_have : Option Addr} {sl_Show_may_have : Array (Option Value)}
    {oc_Show_next_ones kV_Show_next_ones dc_Show_next_ones pm_Show_next_ones cd_Show_next_ones ct_Show_next_ones : Value} {od_Show_next_ones an_Show_next_ones : Option Addr} {sl_Show_next_ones : Array (Option Value)}
    {oc_Show_bests kV_Show_bests dc_Show_bests pm_Show_bests cd_Show_bests ct_Show_bests : Value} {od_Show_bests an_Show_bests : Option Addr} {sl_Show_bests : Array (Option Value)}
    {oc_Show_counts_as kV_Show_counts_as dc_Show_counts_as pm_Show_counts_as cd_Show_counts_as ct_Show_counts_as : Value} {od_Show_counts_as an_Show_counts_as : Option Addr} {sl_Show_counts_as : Array (Option Value)}
    {oc_Show_kept_awards kV_Show_kept_awards dc_Show_kept_awards pm_Show_kept_awards cd_Show_kept_awards ct_Show_kept_awards : Value} {od_Show_kept_awards an_Show_kept_awards : Option Addr} {sl_Show_kept_awards : Array (Option Value)}
    {oc_Refusal_init kV_Refusal_init dc_Refusal_init pm_Refusal_init cd_Refusal_init ct_Refusal_init : Value} {od_Refusal_init an_Refusal_init : Option Addr} {sl_Refusal_init : Array (Option Value)}
    {oc_refuse_if kV_refuse_if dc_refuse_if pm_refuse_if cd_refuse_if ct_refuse_if : Value} {od_refuse_if an_refuse_if : Option Addr} {sl_refuse_if : Array (Option Value)}
    {oc_is_class kV_is_class dc_is_class pm_is_class cd_is_class ct_is_class : Value} {od_is_class an_is_class : Option Addr} {sl_is_class : Array (Option Value)}
    {oc_yes kV_yes dc_yes pm_yes cd_yes ct_yes : Value} {od_yes an_yes : Option Addr} {sl_yes : Array (Option Value)}
    {oc_Book_init kV_Book_init dc_Book_init pm_Book_init cd_Book_init ct_Book_init : Value} {od_Book_init an_Book_init : Option Addr} {sl_Book_init : Array (Option Value)}
    {oc_Book_has_dog kV_Book_has_dog dc_Book_has_dog pm_Book_has_dog cd_Book_has_dog ct_Book_has_dog : Value} {od_Book_has_dog an_Book_has_dog : Option Addr} {sl_Book_has_dog : Array (Option Value)}
    {oc_Book_show_on kV_Book_show_on dc_Book_show_on pm_Book_show_on cd_Book_show_on ct_Book_show_on : Value} {od_Book_show_on an_Book_show_on : Option Addr} {sl_Book_show_on : Array (Option Value)}
    {oc_Book_add_dog kV_Book_add_dog dc_Book_add_dog pm_Book_add_dog cd_Book_add_dog ct_Book_add_dog : Value} {od_Book_add_dog an_Book_add_dog : Option Addr} {sl_Book_add_dog : Array (Option Value)}
    {oc_Book_begin_show kV_Book_begin_show dc_Book_begin_show pm_Book_begin_show cd_Book_begin_show ct_Book_begin_show : Value} {od_Book_begin_show an_Book_begin_show : Option Addr} {sl_Book_begin_show : Array (Option Value)}
    {oc_Book_enter kV_Book_enter dc_Book_enter pm_Book_enter cd_Book_enter ct_Book_enter : Value} {od_Book_enter an_Book_enter : Option Addr} {sl_Book_enter : Array (Option Value)}
    {oc_Book_grade kV_Book_grade dc_Book_grade pm_Book_grade cd_Book_grade ct_Book_grade : Value} {od_Book_grade an_Book_grade : Option Addr} {sl_Book_grade : Array (Option Value)}
    {oc_Book_row kV_Book_row dc_Book_row pm_Book_row cd_Book_row ct_Book_row : Value} {od_Book_row an_Book_row : Option Addr} {sl_Book_row : Array (Option Value)}
    {oc_Book_award kV_Book_award dc_Book_award pm_Book_award cd_Book_award ct_Book_award : Value} {od_Book_award an_Book_award : Option Addr} {sl_Book_award : Array (Option Value)}
    {oc_Book_close_show kV_Book_close_show dc_Book_close_show pm_Book_close_show cd_Book_close_show ct_Book_close_show : Value} {od_Book_close_show an_Book_close_show : Option Addr} {sl_Book_close_show : Array (Option Value)}
    {oc_Book_may kV_Book_may dc_Book_may pm_Book_may cd_Book_may ct_Book_may : Value} {od_Book_may an_Book_may : Option Addr} {sl_Book_may : Array (Option Value)}
    {oc_Book_titles kV_Book_titles dc_Book_titles pm_Book_titles cd_Book_titles ct_Book_titles : Value} {od_Book_titles an_Book_titles : Option Addr} {sl_Book_titles : Array (Option Value)}
    {oc_Book_kept kV_Book_kept dc_Book_kept pm_Book_kept cd_Book_kept ct_Book_kept : Value} {od_Book_kept an_Book_kept : Option Addr} {sl_Book_kept : Array (Option Value)}
    {oc_Book_now kV_Book_now dc_Book_now pm_Book_now cd_Book_now ct_Book_now : Value} {od_Book_now an_Book_now : Option Addr} {sl_Book_now : Array (Option Value)}
    {oc_answer kV_answer dc_answer pm_answer cd_answer ct_answer : Value} {od_answer an_answer : Option Addr} {sl_answer : Array (Option Value)}
    {oc_read_call kV_read_call dc_read_call pm_read_call cd_read_call ct_read_call : Value} {od_read_call an_read_call : Option Addr} {sl_read_call : Array (Option Value)}
    {oc_answers kV_answers dc_answers pm_answers cd_answers ct_answers : Value} {od_answers an_answers : Option Addr} {sl_answers : Array (Option Value)}
    {tk_CERTIFICATE : Tok}
    {tk_YOUNG : Tok}
    {tk_OLD : Tok}
    {tk_INTERNATIONAL : Tok}
    {tk_LONG : Tok}
    {tk_YOUNG_CLASS : Tok}
    {tk_WORKING : Tok}
    {tk_CHAMPIONS : Tok}
    {tk_OLD_CLASS : Tok}
    {tk_EXCELLENT : Tok}
    {tk_NEXT : Tok}
    {tk_NEXT_INTERNATIONAL : Tok}
    {tk_BEST : Tok}
    {tk_OTHER_BEST : Tok}
    {tk_MOST_DOGS : Tok}
    {tk_MOST_ROW : Tok}
    {od_GROWN : Option Addr} {n_GROWN : Nat} {sl_GROWN : Array (Option Value)}
    {tk_GROWN_0 tk_GROWN_1 tk_GROWN_2 tk_GROWN_3 : Tok}
    {od_AGES : Option Addr} {n_AGES : Nat} {sl_AGES : Array (Option Value)}
    {p_AGES_0 p_AGES_1 p_AGES_2 p_AGES_3 p_AGES_4 p_AGES_5 p_AGES_6 : Addr}
    {od_AGES_0 : Option Addr} {n_AGES_0 : Nat} {sl_AGES_0 : Array (Option Value)} {tx_AGES_0 ty_AGES_0 : Tok}
    {od_AGES_1 : Option Addr} {n_AGES_1 : Nat} {sl_AGES_1 : Array (Option Value)} {tx_AGES_1 ty_AGES_1 : Tok}
    {od_AGES_2 : Option Addr} {n_AGES_2 : Nat} {sl_AGES_2 : Array (Option Value)} {tx_AGES_2 ty_AGES_2 : Tok}
    {od_AGES_3 : Option Addr} {n_AGES_3 : Nat} {sl_AGES_3 : Array (Option Value)} {tx_AGES_3 ty_AGES_3 : Tok}
    {od_AGES_4 : Option Addr} {n_AGES_4 : Nat} {sl_AGES_4 : Array (Option Value)} {tx_AGES_4 ty_AGES_4 : Tok}
    {od_AGES_5 : Option Addr} {n_AGES_5 : Nat} {sl_AGES_5 : Array (Option Value)} {tx_AGES_5 ty_AGES_5 : Tok}
    {od_AGES_6 : Option Addr} {n_AGES_6 : Nat} {sl_AGES_6 : Array (Option Value)} {tx_AGES_6 ty_AGES_6 : Tok}
    {od_AWARDS : Option Addr} {n_AWARDS : Nat} {sl_AWARDS : Array (Option Value)}
    {tk_AWARDS_0 tk_AWARDS_1 tk_AWARDS_2 tk_AWARDS_3 tk_AWARDS_4 tk_AWARDS_5 : Tok}
    {od_FORMS : Option Addr} {n_FORMS : Nat} {sl_FORMS : Array (Option Value)}
    {p_FORMS_0 p_FORMS_1 p_FORMS_2 p_FORMS_3 p_FORMS_4 p_FORMS_5 p_FORMS_6 p_FORMS_7 p_FORMS_8 p_FORMS_9 p_FORMS_10 p_FORMS_11 : Addr}
    {od_FORMS_0 : Option Addr} {n_FORMS_0 : Nat} {sl_FORMS_0 : Array (Option Value)} {tx_FORMS_0 ty_FORMS_0 : Tok}
    {od_FORMS_1 : Option Addr} {n_FORMS_1 : Nat} {sl_FORMS_1 : Array (Option Value)} {tx_FORMS_1 ty_FORMS_1 : Tok}
    {od_FORMS_2 : Option Addr} {n_FORMS_2 : Nat} {sl_FORMS_2 : Array (Option Value)} {tx_FORMS_2 ty_FORMS_2 : Tok}
    {od_FORMS_3 : Option Addr} {n_FORMS_3 : Nat} {sl_FORMS_3 : Array (Option Value)} {tx_FORMS_3 ty_FORMS_3 : Tok}
    {od_FORMS_4 : Option Addr} {n_FORMS_4 : Nat} {sl_FORMS_4 : Array (Option Value)} {tx_FORMS_4 ty_FORMS_4 : Tok}
    {od_FORMS_5 : Option Addr} {n_FORMS_5 : Nat} {sl_FORMS_5 : Array (Option Value)} {tx_FORMS_5 ty_FORMS_5 : Tok}
    {od_FORMS_6 : Option Addr} {n_FORMS_6 : Nat} {sl_FORMS_6 : Array (Option Value)} {tx_FORMS_6 ty_FORMS_6 : Tok}
    {od_FORMS_7 : Option Addr} {n_FORMS_7 : Nat} {sl_FORMS_7 : Array (Option Value)} {tx_FORMS_7 ty_FORMS_7 : Tok}
    {od_FORMS_8 : Option Addr} {n_FORMS_8 : Nat} {sl_FORMS_8 : Array (Option Value)} {tx_FORMS_8 ty_FORMS_8 : Tok}
    {od_FORMS_9 : Option Addr} {n_FORMS_9 : Nat} {sl_FORMS_9 : Array (Option Value)} {tx_FORMS_9 ty_FORMS_9 : Tok}
    {od_FORMS_10 : Option Addr} {n_FORMS_10 : Nat} {sl_FORMS_10 : Array (Option Value)} {tx_FORMS_10 ty_FORMS_10 : Tok}
    {od_FORMS_11 : Option Addr} {n_FORMS_11 : Nat} {sl_FORMS_11 : Array (Option Value)} {tx_FORMS_11 ty_FORMS_11 : Tok}
    (aC_Award : PySem.W.nsIn K mainGlobals "Award" = some (some (.ref C_Award)))
    (pg_Award : PySem.W.plainGet K C_Award Str.empty = true)
    (hd_Award : PySem.W.hasDictIn K C_Award = true)
    (po_Award : PySem.W.plainOver K C_Award = true)
    (sa_Award : PySem.W.findIn K (.ref C_Award) "__setattr__" = some (some (.builtin "object.__setattr__")))
    (mk_Award : PySem.W.makesIn K C_Award = true)
    (kc_Award : PySem.W.keepIn K (.ref C_Award) = true)
    (in_Award : PySem.W.findIn K (.ref C_Award) "__init__" = some (some (.ref f_Award_init)))
    (if_Award : PySem.W.isFn K (.ref f_Award_init) = true)
    (na_Award_kind : PySem.W.findIn K (.ref C_Award) "kind" = some none)
    (na_Award_day : PySem.W.findIn K (.ref C_Award) "day" = some none)
    (na_Award_judge : PySem.W.findIn K (.ref C_Award) "judge" = some none)
    (na_Award_country : PySem.W.findIn K (.ref C_Award) "country" = some none)
    (aC_Dog : PySem.W.nsIn K mainGlobals "Dog" = some (some (.ref C_Dog)))
    (pg_Dog : PySem.W.plainGet K C_Dog Str.empty = true)
    (hd_Dog : PySem.W.hasDictIn K C_Dog = true)
    (po_Dog : PySem.W.plainOver K C_Dog = true)
    (sa_Dog : PySem.W.findIn K (.ref C_Dog) "__setattr__" = some (some (.builtin "object.__setattr__")))
    (mk_Dog : PySem.W.makesIn K C_Dog = true)
    (kc_Dog : PySem.W.keepIn K (.ref C_Dog) = true)
    (in_Dog : PySem.W.findIn K (.ref C_Dog) "__init__" = some (some (.ref f_Dog_init)))
    (if_Dog : PySem.W.isFn K (.ref f_Dog_init) = true)
    (na_Dog_number : PySem.W.findIn K (.ref C_Dog) "number" = some none)
    (na_Dog_sex : PySem.W.findIn K (.ref C_Dog) "sex" = some none)
    (na_Dog_born : PySem.W.findIn K (.ref C_Dog) "born" = some none)
    (na_Dog_worked : PySem.W.findIn K (.ref C_Dog) "worked" = some none)
    (na_Dog_awards : PySem.W.findIn K (.ref C_Dog) "awards" = some none)
    (aC_Show : PySem.W.nsIn K mainGlobals "Show" = some (some (.ref C_Show)))
    (pg_Show : PySem.W.plainGet K C_Show Str.empty = true)
    (hd_Show : PySem.W.hasDictIn K C_Show = true)
    (po_Show : PySem.W.plainOver K C_Show = true)
    (sa_Show : PySem.W.findIn K (.ref C_Show) "__setattr__" = some (some (.builtin "object.__setattr__")))
    (mk_Show : PySem.W.makesIn K C_Show = true)
    (kc_Show : PySem.W.keepIn K (.ref C_Show) = true)
    (in_Show : PySem.W.findIn K (.ref C_Show) "__init__" = some (some (.ref f_Show_init)))
    (if_Show : PySem.W.isFn K (.ref f_Show_init) = true)
    (na_Show_day : PySem.W.findIn K (.ref C_Show) "day" = some none)
    (na_Show_judge : PySem.W.findIn K (.ref C_Show) "judge" = some none)
    (na_Show_country : PySem.W.findIn K (.ref C_Show) "country" = some none)
    (na_Show_international : PySem.W.findIn K (.ref C_Show) "international" = some none)
    (na_Show_entered : PySem.W.findIn K (.ref C_Show) "entered" = some none)
    (na_Show_grades : PySem.W.findIn K (.ref C_Show) "grades" = some none)
    (na_Show_rows : PySem.W.findIn K (.ref C_Show) "rows" = some none)
    (na_Show_given : PySem.W.findIn K (.ref C_Show) "given" = some none)
    (aC_Book : PySem.W.nsIn K mainGlobals "Book" = some (some (.ref C_Book)))
    (pg_Book : PySem.W.plainGet K C_Book Str.empty = true)
    (hd_Book : PySem.W.hasDictIn K C_Book = true)
    (po_Book : PySem.W.plainOver K C_Book = true)
    (sa_Book : PySem.W.findIn K (.ref C_Book) "__setattr__" = some (some (.builtin "object.__setattr__")))
    (mk_Book : PySem.W.makesIn K C_Book = true)
    (kc_Book : PySem.W.keepIn K (.ref C_Book) = true)
    (in_Book : PySem.W.findIn K (.ref C_Book) "__init__" = some (some (.ref f_Book_init)))
    (if_Book : PySem.W.isFn K (.ref f_Book_init) = true)
    (na_Book_dogs : PySem.W.findIn K (.ref C_Book) "dogs" = some none)
    (na_Book_show : PySem.W.findIn K (.ref C_Book) "show" = some none)
    (na_Book_last_day : PySem.W.findIn K (.ref C_Book) "last_day" = some none)
    (aC_Refusal : PySem.W.nsIn K mainGlobals "Refusal" = some (some (.ref C_Refusal)))
    (xL : K.lookup C_Refusal = some (excClassObj nm q C_Refusal N bs [.type "ValueError", .type "Exception", .type "BaseException", .type "object"] true sn sub ab col dd m0 m1 m2 m3 m5 "ValueError.__new__"))
    (saR : PySem.W.findIn K (.ref C_Refusal) "__setattr__" = some (some (.builtin "object.__setattr__")))
    (gaR : PySem.W.findIn K (.ref C_Refusal) "__getattribute__" = some (some (.builtin "BaseException.__getattribute__")))
    (ggR : PySem.W.findIn K (.ref C_Refusal) "__getattr__" = some none)
    (nbR : PySem.W.findIn K (.ref C_Refusal) "number" = some none)
    (inR : PySem.W.findIn K (.ref C_Refusal) "__init__" = some (some (.ref f_Refusal_init)))
    (tiR : PySem.W.typeIn K (.ref f_Refusal_init) = some (.type "function"))
    (kCR : PySem.W.keepIn K (.ref C_Refusal) = true)
    (eCR : PySem.W.subIn K (.ref C_Refusal) (.type "BaseException") = some true)
    (tCR : PySem.W.typeIn K (.ref C_Refusal) = some (.type "type"))
    (hCR : PySem.W.hasDictIn K C_Refusal = true)
    (iCR : PySem.W.isClsIn K C_Refusal = true)
    (sCR : PySem.W.subIn K (.ref C_Refusal) (.ref C_Refusal) = some true)
    (vVR : PySem.W.findCls K (.type "ValueError") (.type "type") "__init__" = some (.val (.builtin "ValueError.__init__")))
    (lk_Award_init : K.lookup f_Award_init = some ⟨oc_Award_init, od_Award_init, .func (PySem.W.fnOf "__init__" "Award.__init__" (defArgs s_Award_init) (defBody s_Award_init) (defScope s_Award_init) .none kV_Award_init dc_Award_init pm_Award_init an_Award_init cd_Award_init ct_Award_init), sl_Award_init⟩)
    (cd_Award_init' : PySem.W.codeIn K cd_Award_init "Award.__init__" = true)
    (kp_Award_init : PySem.W.keepIn K (.ref f_Award_init) = true)
    (lk_Dog_init : K.lookup f_Dog_init = some ⟨oc_Dog_init, od_Dog_init, .func (PySem.W.fnOf "__init__" "Dog.__init__" (defArgs s_Dog_init) (defBody s_Dog_init) (defScope s_Dog_init) .none kV_Dog_init dc_Dog_init pm_Dog_init an_Dog_init cd_Dog_init ct_Dog_init), sl_Dog_init⟩)
    (cd_Dog_init' : PySem.W.codeIn K cd_Dog_init "Dog.__init__" = true)
    (kp_Dog_init : PySem.W.keepIn K (.ref f_Dog_init) = true)
    (fm_Dog_has_enough : PySem.W.findIn K (.ref C_Dog) "has_enough" = some (some (.ref f_Dog_has_enough)))
    (fi_Dog_has_enough : PySem.W.isFn K (.ref f_Dog_has_enough) = true)
    (lk_Dog_has_enough : K.lookup f_Dog_has_enough = some ⟨oc_Dog_has_enough, od_Dog_has_enough, .func (PySem.W.fnOf "has_enough" "Dog.has_enough" (defArgs s_Dog_has_enough) (defBody s_Dog_has_enough) (defScope s_Dog_has_enough) .none kV_Dog_has_enough dc_Dog_has_enough pm_Dog_has_enough an_Dog_has_enough cd_Dog_has_enough ct_Dog_has_enough), sl_Dog_has_enough⟩)
    (cd_Dog_has_enough' : PySem.W.codeIn K cd_Dog_has_enough "Dog.has_enough" = true)
    (kp_Dog_has_enough : PySem.W.keepIn K (.ref f_Dog_has_enough) = true)
    (fm_Dog_is_champion : PySem.W.findIn K (.ref C_Dog) "is_champion" = some (some (.ref f_Dog_is_champion)))
    (fi_Dog_is_champion : PySem.W.isFn K (.ref f_Dog_is_champion) = true)
    (lk_Dog_is_champion : K.lookup f_Dog_is_champion = some ⟨oc_Dog_is_champion, od_Dog_is_champion, .func (PySem.W.fnOf "is_champion" "Dog.is_champion" (defArgs s_Dog_is_champion) (defBody s_Dog_is_champion) (defScope s_Dog_is_champion) .none kV_Dog_is_champion dc_Dog_is_champion pm_Dog_is_champion an_Dog_is_champion cd_Dog_is_champion ct_Dog_is_champion), sl_Dog_is_champion⟩)
    (cd_Dog_is_champion' : PySem.W.codeIn K cd_Dog_is_champion "Dog.is_champion" = true)
    (kp_Dog_is_champion : PySem.W.keepIn K (.ref f_Dog_is_champion) = true)
    (fm_Dog_is_young_champion : PySem.W.findIn K (.ref C_Dog) "is_young_champion" = some (some (.ref f_Dog_is_young_champion)))
    (fi_Dog_is_young_champion : PySem.W.isFn K (.ref f_Dog_is_young_champion) = true)
    (lk_Dog_is_young_champion : K.lookup f_Dog_is_young_champion = some ⟨oc_Dog_is_young_champion, od_Dog_is_young_champion, .func (PySem.W.fnOf "is_young_champion" "Dog.is_young_champion" (defArgs s_Dog_is_young_champion) (defBody s_Dog_is_young_champion) (defScope s_Dog_is_young_champion) .none kV_Dog_is_young_champion dc_Dog_is_young_champion pm_Dog_is_young_champion an_Dog_is_young_champion cd_Dog_is_young_champion ct_Dog_is_young_champion), sl_Dog_is_young_champion⟩)
    (cd_Dog_is_young_champion' : PySem.W.codeIn K cd_Dog_is_young_champion "Dog.is_young_champion" = true)
    (kp_Dog_is_young_champion : PySem.W.keepIn K (.ref f_Dog_is_young_champion) = true)
    (fm_Dog_is_old_champion : PySem.W.findIn K (.ref C_Dog) "is_old_champion" = some (some (.ref f_Dog_is_old_champion)))
    (fi_Dog_is_old_champion : PySem.W.isFn K (.ref f_Dog_is_old_champion) = true)
    (lk_Dog_is_old_champion : K.lookup f_Dog_is_old_champion = some ⟨oc_Dog_is_old_champion, od_Dog_is_old_champion, .func (PySem.W.fnOf "is_old_champion" "Dog.is_old_champion" (defArgs s_Dog_is_old_champion) (defBody s_Dog_is_old_champion) (defScope s_Dog_is_old_champion) .none kV_Dog_is_old_champion dc_Dog_is_old_champion pm_Dog_is_old_champion an_Dog_is_old_champion cd_Dog_is_old_champion ct_Dog_is_old_champion), sl_Dog_is_old_champion⟩)
    (cd_Dog_is_old_champion' : PySem.W.codeIn K cd_Dog_is_old_champion "Dog.is_old_champion" = true)
    (kp_Dog_is_old_champion : PySem.W.keepIn K (.ref f_Dog_is_old_champion) = true)
    (fm_Dog_is_international : PySem.W.findIn K (.ref C_Dog) "is_international" = some (some (.ref f_Dog_is_international)))
    (fi_Dog_is_international : PySem.W.isFn K (.ref f_Dog_is_international) = true)
    (lk_Dog_is_international : K.lookup f_Dog_is_international = some ⟨oc_Dog_is_international, od_Dog_is_international, .func (PySem.W.fnOf "is_international" "Dog.is_international" (defArgs s_Dog_is_international) (defBody s_Dog_is_international) (defScope s_Dog_is_international) .none kV_Dog_is_international dc_Dog_is_international pm_Dog_is_international an_Dog_is_international cd_Dog_is_international ct_Dog_is_international), sl_Dog_is_international⟩)
    (cd_Dog_is_international' : PySem.W.codeIn K cd_Dog_is_international "Dog.is_international" = true)
    (kp_Dog_is_international : PySem.W.keepIn K (.ref f_Dog_is_international) = true)
    (ag_is_of_age : PySem.W.nsIn K mainGlobals "is_of_age" = some (some (.ref f_is_of_age)))
    (lk_is_of_age : K.lookup f_is_of_age = some ⟨oc_is_of_age, od_is_of_age, .func (PySem.W.fnOf "is_of_age" "is_of_age" (defArgs s_is_of_age) (defBody s_is_of_age) (defScope s_is_of_age) .none kV_is_of_age dc_is_of_age pm_is_of_age an_is_of_age cd_is_of_age ct_is_of_age), sl_is_of_age⟩)
    (cd_is_of_age' : PySem.W.codeIn K cd_is_of_age "is_of_age" = true)
    (kp_is_of_age : PySem.W.keepIn K (.ref f_is_of_age) = true)
    (lk_Show_init : K.lookup f_Show_init = some ⟨oc_Show_init, od_Show_init, .func (PySem.W.fnOf "__init__" "Show.__init__" (defArgs s_Show_init) (defBody s_Show_init) (defScope s_Show_init) .none kV_Show_init dc_Show_init pm_Show_init an_Show_init cd_Show_init ct_Show_init), sl_Show_init⟩)
    (cd_Show_init' : PySem.W.codeIn K cd_Show_init "Show.__init__" = true)
    (kp_Show_init : PySem.W.keepIn K (.ref f_Show_init) = true)
    (fm_Show_class_of : PySem.W.findIn K (.ref C_Show) "class_of" = some (some (.ref f_Show_class_of)))
    (fi_Show_class_of : PySem.W.isFn K (.ref f_Show_class_of) = true)
    (lk_Show_class_of : K.lookup f_Show_class_of = some ⟨oc_Show_class_of, od_Show_class_of, .func (PySem.W.fnOf "class_of" "Show.class_of" (defArgs s_Show_class_of) (defBody s_Show_class_of) (defScope s_Show_class_of) .none kV_Show_class_of dc_Show_class_of pm_Show_class_of an_Show_class_of cd_Show_class_of ct_Show_class_of), sl_Show_class_of⟩)
    (cd_Show_class_of' : PySem.W.codeIn K cd_Show_class_of "Show.class_of" = true)
    (kp_Show_class_of : PySem.W.keepIn K (.ref f_Show_class_of) = true)
    (fm_Show_grade_of : PySem.W.findIn K (.ref C_Show) "grade_of" = some (some (.ref f_Show_grade_of)))
    (fi_Show_grade_of : PySem.W.isFn K (.ref f_Show_grade_of) = true)
    (lk_Show_grade_of : K.lookup f_Show_grade_of = some ⟨oc_Show_grade_of, od_Show_grade_of, .func (PySem.W.fnOf "grade_of" "Show.grade_of" (defArgs s_Show_grade_of) (defBody s_Show_grade_of) (defScope s_Show_grade_of) .none kV_Show_grade_of dc_Show_grade_of pm_Show_grade_of an_Show_grade_of cd_Show_grade_of ct_Show_grade_of), sl_Show_grade_of⟩)
    (cd_Show_grade_of' : PySem.W.codeIn K cd_Show_grade_of "Show.grade_of" = true)
    (kp_Show_grade_of : PySem.W.keepIn K (.ref f_Show_grade_of) = true)
    (fm_Show_placed : PySem.W.findIn K (.ref C_Show) "placed" = some (some (.ref f_Show_placed)))
    (fi_Show_placed : PySem.W.isFn K (.ref f_Show_placed) = true)
    (lk_Show_placed : K.lookup f_Show_placed = some ⟨oc_Show_placed, od_Show_placed, .func (PySem.W.fnOf "placed" "Show.placed" (defArgs s_Show_placed) (defBody s_Show_placed) (defScope s_Show_placed) .none kV_Show_placed dc_Show_placed pm_Show_placed an_Show_placed cd_Show_placed ct_Show_placed), sl_Show_placed⟩)
    (cd_Show_placed' : PySem.W.codeIn K cd_Show_placed "Show.placed" = true)
    (kp_Show_placed : PySem.W.keepIn K (.ref f_Show_placed) = true)
    (fm_Show_firsts : PySem.W.findIn K (.ref C_Show) "firsts" = some (some (.ref f_Show_firsts)))
    (fi_Show_firsts : PySem.W.isFn K (.ref f_Show_firsts) = true)
    (lk_Show_firsts : K.lookup f_Show_firsts = some ⟨oc_Show_firsts, od_Show_firsts, .func (PySem.W.fnOf "firsts" "Show.firsts" (defArgs s_Show_firsts) (defBody s_Show_firsts) (defScope s_Show_firsts) .none kV_Show_firsts dc_Show_firsts pm_Show_firsts an_Show_firsts cd_Show_firsts ct_Show_firsts), sl_Show_firsts⟩)
    (cd_Show_firsts' : PySem.W.codeIn K cd_Show_firsts "Show.firsts" = true)
    (kp_Show_firsts : PySem.W.keepIn K (.ref f_Show_firsts) = true)
    (fm_Show_holder : PySem.W.findIn K (.ref C_Show) "holder" = some (some (.ref f_Show_holder)))
    (fi_Show_holder : PySem.W.isFn K (.ref f_Show_holder) = true)
    (lk_Show_holder : K.lookup f_Show_holder = some ⟨oc_Show_holder, od_Show_holder, .func (PySem.W.fnOf "holder" "Show.holder" (defArgs s_Show_holder) (defBody s_Show_holder) (defScope s_Show_holder) .none kV_Show_holder dc_Show_holder pm_Show_holder an_Show_holder cd_Show_holder ct_Show_holder), sl_Show_holder⟩)
    (cd_Show_holder' : PySem.W.codeIn K cd_Show_holder "Show.holder" = true)
    (kp_Show_holder : PySem.W.keepIn K (.ref f_Show_holder) = true)
    (fm_Show_is_given : PySem.W.findIn K (.ref C_Show) "is_given" = some (some (.ref f_Show_is_given)))
    (fi_Show_is_given : PySem.W.isFn K (.ref f_Show_is_given) = true)
    (lk_Show_is_given : K.lookup f_Show_is_given = some ⟨oc_Show_is_given, od_Show_is_given, .func (PySem.W.fnOf "is_given" "Show.is_given" (defArgs s_Show_is_given) (defBody s_Show_is_given) (defScope s_Show_is_given) .none kV_Show_is_given dc_Show_is_given pm_Show_is_given an_Show_is_given cd_Show_is_given ct_Show_is_given), sl_Show_is_given⟩)
    (cd_Show_is_given' : PySem.W.codeIn K cd_Show_is_given "Show.is_given" = true)
    (kp_Show_is_given : PySem.W.keepIn K (.ref f_Show_is_given) = true)
    (fm_Show_may_have : PySem.W.findIn K (.ref C_Show) "may_have" = some (some (.ref f_Show_may_have)))
    (fi_Show_may_have : PySem.W.isFn K (.ref f_Show_may_have) = true)
    (lk_Show_may_have : K.lookup f_Show_may_have = some ⟨oc_Show_may_have, od_Show_may_have, .func (PySem.W.fnOf "may_have" "Show.may_have" (defArgs s_Show_may_have) (defBody s_Show_may_have) (defScope s_Show_may_have) .none kV_Show_may_have dc_Show_may_have pm_Show_may_have an_Show_may_have cd_Show_may_have ct_Show_may_have), sl_Show_may_have⟩)
    (cd_Show_may_have' : PySem.W.codeIn K cd_Show_may_have "Show.may_have" = true)
    (kp_Show_may_have : PySem.W.keepIn K (.ref f_Show_may_have) = true)
    (fm_Show_next_ones : PySem.W.findIn K (.ref C_Show) "next_ones" = some (some (.ref f_Show_next_ones)))
    (fi_Show_next_ones : PySem.W.isFn K (.ref f_Show_next_ones) = true)
    (lk_Show_next_ones : K.lookup f_Show_next_ones = some ⟨oc_Show_next_ones, od_Show_next_ones, .func (PySem.W.fnOf "next_ones" "Show.next_ones" (defArgs s_Show_next_ones) (defBody s_Show_next_ones) (defScope s_Show_next_ones) .none kV_Show_next_ones dc_Show_next_ones pm_Show_next_ones an_Show_next_ones cd_Show_next_ones ct_Show_next_ones), sl_Show_next_ones⟩)
    (cd_Show_next_ones' : PySem.W.codeIn K cd_Show_next_ones "Show.next_ones" = true)
    (kp_Show_next_ones : PySem.W.keepIn K (.ref f_Show_next_ones) = true)
    (fm_Show_bests : PySem.W.findIn K (.ref C_Show) "bests" = some (some (.ref f_Show_bests)))
    (fi_Show_bests : PySem.W.isFn K (.ref f_Show_bests) = true)
    (lk_Show_bests : K.lookup f_Show_bests = some ⟨oc_Show_bests, od_Show_bests, .func (PySem.W.fnOf "bests" "Show.bests" (defArgs s_Show_bests) (defBody s_Show_bests) (defScope s_Show_bests) .none kV_Show_bests dc_Show_bests pm_Show_bests an_Show_bests cd_Show_bests ct_Show_bests), sl_Show_bests⟩)
    (cd_Show_bests' : PySem.W.codeIn K cd_Show_bests "Show.bests" = true)
    (kp_Show_bests : PySem.W.keepIn K (.ref f_Show_bests) = true)
    (fm_Show_counts_as : PySem.W.findIn K (.ref C_Show) "counts_as" = some (some (.ref f_Show_counts_as)))
    (fi_Show_counts_as : PySem.W.isFn K (.ref f_Show_counts_as) = true)
    (lk_Show_counts_as : K.lookup f_Show_counts_as = some ⟨oc_Show_counts_as, od_Show_counts_as, .func (PySem.W.fnOf "counts_as" "Show.counts_as" (defArgs s_Show_counts_as) (defBody s_Show_counts_as) (defScope s_Show_counts_as) .none kV_Show_counts_as dc_Show_counts_as pm_Show_counts_as an_Show_counts_as cd_Show_counts_as ct_Show_counts_as), sl_Show_counts_as⟩)
    (cd_Show_counts_as' : PySem.W.codeIn K cd_Show_counts_as "Show.counts_as" = true)
    (kp_Show_counts_as : PySem.W.keepIn K (.ref f_Show_counts_as) = true)
    (fm_Show_kept_awards : PySem.W.findIn K (.ref C_Show) "kept_awards" = some (some (.ref f_Show_kept_awards)))
    (fi_Show_kept_awards : PySem.W.isFn K (.ref f_Show_kept_awards) = true)
    (lk_Show_kept_awards : K.lookup f_Show_kept_awards = some ⟨oc_Show_kept_awards, od_Show_kept_awards, .func (PySem.W.fnOf "kept_awards" "Show.kept_awards" (defArgs s_Show_kept_awards) (defBody s_Show_kept_awards) (defScope s_Show_kept_awards) .none kV_Show_kept_awards dc_Show_kept_awards pm_Show_kept_awards an_Show_kept_awards cd_Show_kept_awards ct_Show_kept_awards), sl_Show_kept_awards⟩)
    (cd_Show_kept_awards' : PySem.W.codeIn K cd_Show_kept_awards "Show.kept_awards" = true)
    (kp_Show_kept_awards : PySem.W.keepIn K (.ref f_Show_kept_awards) = true)
    (lk_Refusal_init : K.lookup f_Refusal_init = some ⟨oc_Refusal_init, od_Refusal_init, .func (PySem.W.fnOf "__init__" "Refusal.__init__" (defArgs s_Refusal_init) (defBody s_Refusal_init) (defScope s_Refusal_init) .none kV_Refusal_init dc_Refusal_init pm_Refusal_init an_Refusal_init cd_Refusal_init ct_Refusal_init), sl_Refusal_init⟩)
    (cd_Refusal_init' : PySem.W.codeIn K cd_Refusal_init "Refusal.__init__" = true)
    (kp_Refusal_init : PySem.W.keepIn K (.ref f_Refusal_init) = true)
    (ag_refuse_if : PySem.W.nsIn K mainGlobals "refuse_if" = some (some (.ref f_refuse_if)))
    (lk_refuse_if : K.lookup f_refuse_if = some ⟨oc_refuse_if, od_refuse_if, .func (PySem.W.fnOf "refuse_if" "refuse_if" (defArgs s_refuse_if) (defBody s_refuse_if) (defScope s_refuse_if) .none kV_refuse_if dc_refuse_if pm_refuse_if an_refuse_if cd_refuse_if ct_refuse_if), sl_refuse_if⟩)
    (cd_refuse_if' : PySem.W.codeIn K cd_refuse_if "refuse_if" = true)
    (kp_refuse_if : PySem.W.keepIn K (.ref f_refuse_if) = true)
    (ag_is_class : PySem.W.nsIn K mainGlobals "is_class" = some (some (.ref f_is_class)))
    (lk_is_class : K.lookup f_is_class = some ⟨oc_is_class, od_is_class, .func (PySem.W.fnOf "is_class" "is_class" (defArgs s_is_class) (defBody s_is_class) (defScope s_is_class) .none kV_is_class dc_is_class pm_is_class an_is_class cd_is_class ct_is_class), sl_is_class⟩)
    (cd_is_class' : PySem.W.codeIn K cd_is_class "is_class" = true)
    (kp_is_class : PySem.W.keepIn K (.ref f_is_class) = true)
    (ag_yes : PySem.W.nsIn K mainGlobals "yes" = some (some (.ref f_yes)))
    (lk_yes : K.lookup f_yes = some ⟨oc_yes, od_yes, .func (PySem.W.fnOf "yes" "yes" (defArgs s_yes) (defBody s_yes) (defScope s_yes) .none kV_yes dc_yes pm_yes an_yes cd_yes ct_yes), sl_yes⟩)
    (cd_yes' : PySem.W.codeIn K cd_yes "yes" = true)
    (kp_yes : PySem.W.keepIn K (.ref f_yes) = true)
    (lk_Book_init : K.lookup f_Book_init = some ⟨oc_Book_init, od_Book_init, .func (PySem.W.fnOf "__init__" "Book.__init__" (defArgs s_Book_init) (defBody s_Book_init) (defScope s_Book_init) .none kV_Book_init dc_Book_init pm_Book_init an_Book_init cd_Book_init ct_Book_init), sl_Book_init⟩)
    (cd_Book_init' : PySem.W.codeIn K cd_Book_init "Book.__init__" = true)
    (kp_Book_init : PySem.W.keepIn K (.ref f_Book_init) = true)
    (fm_Book_has_dog : PySem.W.findIn K (.ref C_Book) "has_dog" = some (some (.ref f_Book_has_dog)))
    (fi_Book_has_dog : PySem.W.isFn K (.ref f_Book_has_dog) = true)
    (lk_Book_has_dog : K.lookup f_Book_has_dog = some ⟨oc_Book_has_dog, od_Book_has_dog, .func (PySem.W.fnOf "has_dog" "Book.has_dog" (defArgs s_Book_has_dog) (defBody s_Book_has_dog) (defScope s_Book_has_dog) .none kV_Book_has_dog dc_Book_has_dog pm_Book_has_dog an_Book_has_dog cd_Book_has_dog ct_Book_has_dog), sl_Book_has_dog⟩)
    (cd_Book_has_dog' : PySem.W.codeIn K cd_Book_has_dog "Book.has_dog" = true)
    (kp_Book_has_dog : PySem.W.keepIn K (.ref f_Book_has_dog) = true)
    (fm_Book_show_on : PySem.W.findIn K (.ref C_Book) "show_on" = some (some (.ref f_Book_show_on)))
    (fi_Book_show_on : PySem.W.isFn K (.ref f_Book_show_on) = true)
    (lk_Book_show_on : K.lookup f_Book_show_on = some ⟨oc_Book_show_on, od_Book_show_on, .func (PySem.W.fnOf "show_on" "Book.show_on" (defArgs s_Book_show_on) (defBody s_Book_show_on) (defScope s_Book_show_on) .none kV_Book_show_on dc_Book_show_on pm_Book_show_on an_Book_show_on cd_Book_show_on ct_Book_show_on), sl_Book_show_on⟩)
    (cd_Book_show_on' : PySem.W.codeIn K cd_Book_show_on "Book.show_on" = true)
    (kp_Book_show_on : PySem.W.keepIn K (.ref f_Book_show_on) = true)
    (fm_Book_add_dog : PySem.W.findIn K (.ref C_Book) "add_dog" = some (some (.ref f_Book_add_dog)))
    (fi_Book_add_dog : PySem.W.isFn K (.ref f_Book_add_dog) = true)
    (lk_Book_add_dog : K.lookup f_Book_add_dog = some ⟨oc_Book_add_dog, od_Book_add_dog, .func (PySem.W.fnOf "add_dog" "Book.add_dog" (defArgs s_Book_add_dog) (defBody s_Book_add_dog) (defScope s_Book_add_dog) .none kV_Book_add_dog dc_Book_add_dog pm_Book_add_dog an_Book_add_dog cd_Book_add_dog ct_Book_add_dog), sl_Book_add_dog⟩)
    (cd_Book_add_dog' : PySem.W.codeIn K cd_Book_add_dog "Book.add_dog" = true)
    (kp_Book_add_dog : PySem.W.keepIn K (.ref f_Book_add_dog) = true)
    (fm_Book_begin_show : PySem.W.findIn K (.ref C_Book) "begin_show" = some (some (.ref f_Book_begin_show)))
    (fi_Book_begin_show : PySem.W.isFn K (.ref f_Book_begin_show) = true)
    (lk_Book_begin_show : K.lookup f_Book_begin_show = some ⟨oc_Book_begin_show, od_Book_begin_show, .func (PySem.W.fnOf "begin_show" "Book.begin_show" (defArgs s_Book_begin_show) (defBody s_Book_begin_show) (defScope s_Book_begin_show) .none kV_Book_begin_show dc_Book_begin_show pm_Book_begin_show an_Book_begin_show cd_Book_begin_show ct_Book_begin_show), sl_Book_begin_show⟩)
    (cd_Book_begin_show' : PySem.W.codeIn K cd_Book_begin_show "Book.begin_show" = true)
    (kp_Book_begin_show : PySem.W.keepIn K (.ref f_Book_begin_show) = true)
    (fm_Book_enter : PySem.W.findIn K (.ref C_Book) "enter" = some (some (.ref f_Book_enter)))
    (fi_Book_enter : PySem.W.isFn K (.ref f_Book_enter) = true)
    (lk_Book_enter : K.lookup f_Book_enter = some ⟨oc_Book_enter, od_Book_enter, .func (PySem.W.fnOf "enter" "Book.enter" (defArgs s_Book_enter) (defBody s_Book_enter) (defScope s_Book_enter) .none kV_Book_enter dc_Book_enter pm_Book_enter an_Book_enter cd_Book_enter ct_Book_enter), sl_Book_enter⟩)
    (cd_Book_enter' : PySem.W.codeIn K cd_Book_enter "Book.enter" = true)
    (kp_Book_enter : PySem.W.keepIn K (.ref f_Book_enter) = true)
    (fm_Book_grade : PySem.W.findIn K (.ref C_Book) "grade" = some (some (.ref f_Book_grade)))
    (fi_Book_grade : PySem.W.isFn K (.ref f_Book_grade) = true)
    (lk_Book_grade : K.lookup f_Book_grade = some ⟨oc_Book_grade, od_Book_grade, .func (PySem.W.fnOf "grade" "Book.grade" (defArgs s_Book_grade) (defBody s_Book_grade) (defScope s_Book_grade) .none kV_Book_grade dc_Book_grade pm_Book_grade an_Book_grade cd_Book_grade ct_Book_grade), sl_Book_grade⟩)
    (cd_Book_grade' : PySem.W.codeIn K cd_Book_grade "Book.grade" = true)
    (kp_Book_grade : PySem.W.keepIn K (.ref f_Book_grade) = true)
    (fm_Book_row : PySem.W.findIn K (.ref C_Book) "row" = some (some (.ref f_Book_row)))
    (fi_Book_row : PySem.W.isFn K (.ref f_Book_row) = true)
    (lk_Book_row : K.lookup f_Book_row = some ⟨oc_Book_row, od_Book_row, .func (PySem.W.fnOf "row" "Book.row" (defArgs s_Book_row) (defBody s_Book_row) (defScope s_Book_row) .none kV_Book_row dc_Book_row pm_Book_row an_Book_row cd_Book_row ct_Book_row), sl_Book_row⟩)
    (cd_Book_row' : PySem.W.codeIn K cd_Book_row "Book.row" = true)
    (kp_Book_row : PySem.W.keepIn K (.ref f_Book_row) = true)
    (fm_Book_award : PySem.W.findIn K (.ref C_Book) "award" = some (some (.ref f_Book_award)))
    (fi_Book_award : PySem.W.isFn K (.ref f_Book_award) = true)
    (lk_Book_award : K.lookup f_Book_award = some ⟨oc_Book_award, od_Book_award, .func (PySem.W.fnOf "award" "Book.award" (defArgs s_Book_award) (defBody s_Book_award) (defScope s_Book_award) .none kV_Book_award dc_Book_award pm_Book_award an_Book_award cd_Book_award ct_Book_award), sl_Book_award⟩)
    (cd_Book_award' : PySem.W.codeIn K cd_Book_award "Book.award" = true)
    (kp_Book_award : PySem.W.keepIn K (.ref f_Book_award) = true)
    (fm_Book_close_show : PySem.W.findIn K (.ref C_Book) "close_show" = some (some (.ref f_Book_close_show)))
    (fi_Book_close_show : PySem.W.isFn K (.ref f_Book_close_show) = true)
    (lk_Book_close_show : K.lookup f_Book_close_show = some ⟨oc_Book_close_show, od_Book_close_show, .func (PySem.W.fnOf "close_show" "Book.close_show" (defArgs s_Book_close_show) (defBody s_Book_close_show) (defScope s_Book_close_show) .none kV_Book_close_show dc_Book_close_show pm_Book_close_show an_Book_close_show cd_Book_close_show ct_Book_close_show), sl_Book_close_show⟩)
    (cd_Book_close_show' : PySem.W.codeIn K cd_Book_close_show "Book.close_show" = true)
    (kp_Book_close_show : PySem.W.keepIn K (.ref f_Book_close_show) = true)
    (fm_Book_may : PySem.W.findIn K (.ref C_Book) "may" = some (some (.ref f_Book_may)))
    (fi_Book_may : PySem.W.isFn K (.ref f_Book_may) = true)
    (lk_Book_may : K.lookup f_Book_may = some ⟨oc_Book_may, od_Book_may, .func (PySem.W.fnOf "may" "Book.may" (defArgs s_Book_may) (defBody s_Book_may) (defScope s_Book_may) .none kV_Book_may dc_Book_may pm_Book_may an_Book_may cd_Book_may ct_Book_may), sl_Book_may⟩)
    (cd_Book_may' : PySem.W.codeIn K cd_Book_may "Book.may" = true)
    (kp_Book_may : PySem.W.keepIn K (.ref f_Book_may) = true)
    (fm_Book_titles : PySem.W.findIn K (.ref C_Book) "titles" = some (some (.ref f_Book_titles)))
    (fi_Book_titles : PySem.W.isFn K (.ref f_Book_titles) = true)
    (lk_Book_titles : K.lookup f_Book_titles = some ⟨oc_Book_titles, od_Book_titles, .func (PySem.W.fnOf "titles" "Book.titles" (defArgs s_Book_titles) (defBody s_Book_titles) (defScope s_Book_titles) .none kV_Book_titles dc_Book_titles pm_Book_titles an_Book_titles cd_Book_titles ct_Book_titles), sl_Book_titles⟩)
    (cd_Book_titles' : PySem.W.codeIn K cd_Book_titles "Book.titles" = true)
    (kp_Book_titles : PySem.W.keepIn K (.ref f_Book_titles) = true)
    (fm_Book_kept : PySem.W.findIn K (.ref C_Book) "kept" = some (some (.ref f_Book_kept)))
    (fi_Book_kept : PySem.W.isFn K (.ref f_Book_kept) = true)
    (lk_Book_kept : K.lookup f_Book_kept = some ⟨oc_Book_kept, od_Book_kept, .func (PySem.W.fnOf "kept" "Book.kept" (defArgs s_Book_kept) (defBody s_Book_kept) (defScope s_Book_kept) .none kV_Book_kept dc_Book_kept pm_Book_kept an_Book_kept cd_Book_kept ct_Book_kept), sl_Book_kept⟩)
    (cd_Book_kept' : PySem.W.codeIn K cd_Book_kept "Book.kept" = true)
    (kp_Book_kept : PySem.W.keepIn K (.ref f_Book_kept) = true)
    (fm_Book_now : PySem.W.findIn K (.ref C_Book) "now" = some (some (.ref f_Book_now)))
    (fi_Book_now : PySem.W.isFn K (.ref f_Book_now) = true)
    (lk_Book_now : K.lookup f_Book_now = some ⟨oc_Book_now, od_Book_now, .func (PySem.W.fnOf "now" "Book.now" (defArgs s_Book_now) (defBody s_Book_now) (defScope s_Book_now) .none kV_Book_now dc_Book_now pm_Book_now an_Book_now cd_Book_now ct_Book_now), sl_Book_now⟩)
    (cd_Book_now' : PySem.W.codeIn K cd_Book_now "Book.now" = true)
    (kp_Book_now : PySem.W.keepIn K (.ref f_Book_now) = true)
    (ag_answer : PySem.W.nsIn K mainGlobals "answer" = some (some (.ref f_answer)))
    (lk_answer : K.lookup f_answer = some ⟨oc_answer, od_answer, .func (PySem.W.fnOf "answer" "answer" (defArgs s_answer) (defBody s_answer) (defScope s_answer) .none kV_answer dc_answer pm_answer an_answer cd_answer ct_answer), sl_answer⟩)
    (cd_answer' : PySem.W.codeIn K cd_answer "answer" = true)
    (kp_answer : PySem.W.keepIn K (.ref f_answer) = true)
    (ag_read_call : PySem.W.nsIn K mainGlobals "read_call" = some (some (.ref f_read_call)))
    (lk_read_call : K.lookup f_read_call = some ⟨oc_read_call, od_read_call, .func (PySem.W.fnOf "read_call" "read_call" (defArgs s_read_call) (defBody s_read_call) (defScope s_read_call) .none kV_read_call dc_read_call pm_read_call an_read_call cd_read_call ct_read_call), sl_read_call⟩)
    (cd_read_call' : PySem.W.codeIn K cd_read_call "read_call" = true)
    (kp_read_call : PySem.W.keepIn K (.ref f_read_call) = true)
    (ag_answers : PySem.W.nsIn K mainGlobals "answers" = some (some (.ref f_answers)))
    (lk_answers : K.lookup f_answers = some ⟨oc_answers, od_answers, .func (PySem.W.fnOf "answers" "answers" (defArgs s_answers) (defBody s_answers) (defScope s_answers) .none kV_answers dc_answers pm_answers an_answers cd_answers ct_answers), sl_answers⟩)
    (cd_answers' : PySem.W.codeIn K cd_answers "answers" = true)
    (kp_answers : PySem.W.keepIn K (.ref f_answers) = true)
    (ac_CERTIFICATE : PySem.W.nsIn K mainGlobals "CERTIFICATE" = some (some (.int 0 tk_CERTIFICATE)))
    (ac_YOUNG : PySem.W.nsIn K mainGlobals "YOUNG" = some (some (.int 2 tk_YOUNG)))
    (ac_OLD : PySem.W.nsIn K mainGlobals "OLD" = some (some (.int 3 tk_OLD)))
    (ac_INTERNATIONAL : PySem.W.nsIn K mainGlobals "INTERNATIONAL" = some (some (.int 4 tk_INTERNATIONAL)))
    (ac_LONG : PySem.W.nsIn K mainGlobals "LONG" = some (some (.int 366 tk_LONG)))
    (ac_YOUNG_CLASS : PySem.W.nsIn K mainGlobals "YOUNG_CLASS" = some (some (.int 1 tk_YOUNG_CLASS)))
    (ac_WORKING : PySem.W.nsIn K mainGlobals "WORKING" = some (some (.int 4 tk_WORKING)))
    (ac_CHAMPIONS : PySem.W.nsIn K mainGlobals "CHAMPIONS" = some (some (.int 5 tk_CHAMPIONS)))
    (ac_OLD_CLASS : PySem.W.nsIn K mainGlobals "OLD_CLASS" = some (some (.int 6 tk_OLD_CLASS)))
    (ac_EXCELLENT : PySem.W.nsIn K mainGlobals "EXCELLENT" = some (some (.int 3 tk_EXCELLENT)))
    (ac_NEXT : PySem.W.nsIn K mainGlobals "NEXT" = some (some (.int 1 tk_NEXT)))
    (ac_NEXT_INTERNATIONAL : PySem.W.nsIn K mainGlobals "NEXT_INTERNATIONAL" = some (some (.int 5 tk_NEXT_INTERNATIONAL)))
    (ac_BEST : PySem.W.nsIn K mainGlobals "BEST" = some (some (.int 6 tk_BEST)))
    (ac_OTHER_BEST : PySem.W.nsIn K mainGlobals "OTHER_BEST" = some (some (.int 7 tk_OTHER_BEST)))
    (ac_MOST_DOGS : PySem.W.nsIn K mainGlobals "MOST_DOGS" = some (some (.int 60 tk_MOST_DOGS)))
    (ac_MOST_ROW : PySem.W.nsIn K mainGlobals "MOST_ROW" = some (some (.int 4 tk_MOST_ROW)))
    (at_GROWN : PySem.W.nsIn K mainGlobals "GROWN" = some (some (.ref a_GROWN)))
    (lt_GROWN : K.lookup a_GROWN = some ⟨.type "tuple", od_GROWN, .seq #[.int 2 tk_GROWN_0, .int 3 tk_GROWN_1, .int 4 tk_GROWN_2, .int 5 tk_GROWN_3] n_GROWN, sl_GROWN⟩)
    (at_AGES : PySem.W.nsIn K mainGlobals "AGES" = some (some (.ref a_AGES)))
    (lt_AGES : K.lookup a_AGES = some ⟨.type "tuple", od_AGES, .seq #[.ref p_AGES_0, .ref p_AGES_1, .ref p_AGES_2, .ref p_AGES_3, .ref p_AGES_4, .ref p_AGES_5, .ref p_AGES_6] n_AGES, sl_AGES⟩)
    (lt_AGES_0 : K.lookup p_AGES_0 = some ⟨.type "tuple", od_AGES_0, .seq #[.int 183 tx_AGES_0, .int 273 ty_AGES_0] n_AGES_0, sl_AGES_0⟩)
    (lt_AGES_1 : K.lookup p_AGES_1 = some ⟨.type "tuple", od_AGES_1, .seq #[.int 274 tx_AGES_1, .int 548 ty_AGES_1] n_AGES_1, sl_AGES_1⟩)
    (lt_AGES_2 : K.lookup p_AGES_2 = some ⟨.type "tuple", od_AGES_2, .seq #[.int 457 tx_AGES_2, .int 730 ty_AGES_2] n_AGES_2, sl_AGES_2⟩)
    (lt_AGES_3 : K.lookup p_AGES_3 = some ⟨.type "tuple", od_AGES_3, .seq #[.int 457 tx_AGES_3, .int 0 ty_AGES_3] n_AGES_3, sl_AGES_3⟩)
    (lt_AGES_4 : K.lookup p_AGES_4 = some ⟨.type "tuple", od_AGES_4, .seq #[.int 457 tx_AGES_4, .int 0 ty_AGES_4] n_AGES_4, sl_AGES_4⟩)
    (lt_AGES_5 : K.lookup p_AGES_5 = some ⟨.type "tuple", od_AGES_5, .seq #[.int 457 tx_AGES_5, .int 0 ty_AGES_5] n_AGES_5, sl_AGES_5⟩)
    (lt_AGES_6 : K.lookup p_AGES_6 = some ⟨.type "tuple", od_AGES_6, .seq #[.int 2922 tx_AGES_6, .int 0 ty_AGES_6] n_AGES_6, sl_AGES_6⟩)
    (at_AWARDS : PySem.W.nsIn K mainGlobals "AWARDS" = some (some (.ref a_AWARDS)))
    (lt_AWARDS : K.lookup a_AWARDS = some ⟨.type "tuple", od_AWARDS, .seq #[.int 0 tk_AWARDS_0, .int 1 tk_AWARDS_1, .int 4 tk_AWARDS_2, .int 5 tk_AWARDS_3, .int 6 tk_AWARDS_4, .int 7 tk_AWARDS_5] n_AWARDS, sl_AWARDS⟩)
    (at_FORMS : PySem.W.nsIn K mainGlobals "FORMS" = some (some (.ref a_FORMS)))
    (lt_FORMS : K.lookup a_FORMS = some ⟨.type "tuple", od_FORMS, .seq #[.ref p_FORMS_0, .ref p_FORMS_1, .ref p_FORMS_2, .ref p_FORMS_3, .ref p_FORMS_4, .ref p_FORMS_5, .ref p_FORMS_6, .ref p_FORMS_7, .ref p_FORMS_8, .ref p_FORMS_9, .ref p_FORMS_10, .ref p_FORMS_11] n_FORMS, sl_FORMS⟩)
    (lt_FORMS_0 : K.lookup p_FORMS_0 = some ⟨.type "tuple", od_FORMS_0, .seq #[.int 0 tx_FORMS_0, .int 0 ty_FORMS_0] n_FORMS_0, sl_FORMS_0⟩)
    (lt_FORMS_1 : K.lookup p_FORMS_1 = some ⟨.type "tuple", od_FORMS_1, .seq #[.int 3 tx_FORMS_1, .int 0 ty_FORMS_1] n_FORMS_1, sl_FORMS_1⟩)
    (lt_FORMS_2 : K.lookup p_FORMS_2 = some ⟨.type "tuple", od_FORMS_2, .seq #[.int 4 tx_FORMS_2, .int 0 ty_FORMS_2] n_FORMS_2, sl_FORMS_2⟩)
    (lt_FORMS_3 : K.lookup p_FORMS_3 = some ⟨.type "tuple", od_FORMS_3, .seq #[.int 2 tx_FORMS_3, .int 0 ty_FORMS_3] n_FORMS_3, sl_FORMS_3⟩)
    (lt_FORMS_4 : K.lookup p_FORMS_4 = some ⟨.type "tuple", od_FORMS_4, .seq #[.int 2 tx_FORMS_4, .int 0 ty_FORMS_4] n_FORMS_4, sl_FORMS_4⟩)
    (lt_FORMS_5 : K.lookup p_FORMS_5 = some ⟨.type "tuple", od_FORMS_5, .seq #[.int 2 tx_FORMS_5, .int 1 ty_FORMS_5] n_FORMS_5, sl_FORMS_5⟩)
    (lt_FORMS_6 : K.lookup p_FORMS_6 = some ⟨.type "tuple", od_FORMS_6, .seq #[.int 2 tx_FORMS_6, .int 0 ty_FORMS_6] n_FORMS_6, sl_FORMS_6⟩)
    (lt_FORMS_7 : K.lookup p_FORMS_7 = some ⟨.type "tuple", od_FORMS_7, .seq #[.int 0 tx_FORMS_7, .int 0 ty_FORMS_7] n_FORMS_7, sl_FORMS_7⟩)
    (lt_FORMS_8 : K.lookup p_FORMS_8 = some ⟨.type "tuple", od_FORMS_8, .seq #[.int 2 tx_FORMS_8, .int 0 ty_FORMS_8] n_FORMS_8, sl_FORMS_8⟩)
    (lt_FORMS_9 : K.lookup p_FORMS_9 = some ⟨.type "tuple", od_FORMS_9, .seq #[.int 1 tx_FORMS_9, .int 0 ty_FORMS_9] n_FORMS_9, sl_FORMS_9⟩)
    (lt_FORMS_10 : K.lookup p_FORMS_10 = some ⟨.type "tuple", od_FORMS_10, .seq #[.int 1 tx_FORMS_10, .int 0 ty_FORMS_10] n_FORMS_10, sl_FORMS_10⟩)
    (lt_FORMS_11 : K.lookup p_FORMS_11 = some ⟨.type "tuple", od_FORMS_11, .seq #[.int 0 tx_FORMS_11, .int 0 ty_FORMS_11] n_FORMS_11, sl_FORMS_11⟩)
    (ab_len : PySem.W.nsIn K mainGlobals "len" = some none)
    (ab_max : PySem.W.nsIn K mainGlobals "max" = some none)
    (ab_min : PySem.W.nsIn K mainGlobals "min" = some none)
    (ab_set : PySem.W.nsIn K mainGlobals "set" = some none)
    (ab_any : PySem.W.nsIn K mainGlobals "any" = some none)
    (ab_all : PySem.W.nsIn K mainGlobals "all" = some none)
    (ab_ValueError : PySem.W.nsIn K mainGlobals "ValueError" = some none) :
    Txt K mg ⟨C_Award, C_Dog, C_Show, C_Refusal, C_Book, f_Award_init, f_Dog_init, f_Dog_has_enough, f_Dog_is_champion, f_Dog_is_young_champion, f_Dog_is_old_champion, f_Dog_is_international, f_is_of_age, f_Show_init, f_Show_class_of, f_Show_grade_of, f_Show_placed, f_Show_firsts, f_Show_holder, f_Show_is_given, f_Show_may_have, f_Show_next_ones, f_Show_bests, f_Show_counts_as, f_Show_kept_awards, f_Refusal_init, f_refuse_if, f_is_class, f_yes, f_Book_init, f_Book_has_dog, f_Book_show_on, f_Book_add_dog, f_Book_begin_show, f_Book_enter, f_Book_grade, f_Book_row, f_Book_award, f_Book_close_show, f_Book_may, f_Book_titles, f_Book_kept, f_Book_now, f_answer, f_read_call, f_answers, a_GROWN, a_AGES, a_AWARDS, a_FORMS⟩ :=
  { cl_Award := ⟨pg_Award, hd_Award, po_Award, sa_Award⟩,
    mk_Award := ⟨mk_Award, in_Award, if_Award, kc_Award⟩,
    g_Award := PySem.W.mg_of X G aC_Award,
    n_Award_kind := na_Award_kind,
    n_Award_day := na_Award_day,
    n_Award_judge := na_Award_judge,
    n_Award_country := na_Award_country,
    cl_Dog := ⟨pg_Dog, hd_Dog, po_Dog, sa_Dog⟩,
    mk_Dog := ⟨mk_Dog, in_Dog, if_Dog, kc_Dog⟩,
    g_Dog := PySem.W.mg_of X G aC_Dog,
    n_Dog_number := na_Dog_number,
    n_Dog_sex := na_Dog_sex,
    n_Dog_born := na_Dog_born,
    n_Dog_worked := na_Dog_worked,
    n_Dog_awards := na_Dog_awards,
    cl_Show := ⟨pg_Show, hd_Show, po_Show, sa_Show⟩,
    mk_Show := ⟨mk_Show, in_Show, if_Show, kc_Show⟩,
    g_Show := PySem.W.mg_of X G aC_Show,
    n_Show_day := na_Show_day,
    n_Show_judge := na_Show_judge,
    n_Show_country := na_Show_country,
    n_Show_international := na_Show_international,
    n_Show_entered := na_Show_entered,
    n_Show_grades := na_Show_grades,
    n_Show_rows := na_Show_rows,
    n_Show_given := na_Show_given,
    cl_Book := ⟨pg_Book, hd_Book, po_Book, sa_Book⟩,
    mk_Book := ⟨mk_Book, in_Book, if_Book, kc_Book⟩,
    g_Book := PySem.W.mg_of X G aC_Book,
    n_Book_dogs := na_Book_dogs,
    n_Book_show := na_Book_show,
    n_Book_last_day := na_Book_last_day,
    F_Award_init := ⟨_, fun_mk (st := s_Award_init) lk_Award_init cd_Award_init' kp_Award_init, (fun_mk (st := s_Award_init) lk_Award_init cd_Award_init' kp_Award_init).binds (ps := P_Award_init) fun _ _ _ _ _ _ us hl => match us, hl with | [_, _, _, _, _], _ => rfl⟩,
    F_Dog_init := ⟨_, fun_mk (st := s_Dog_init) lk_Dog_init cd_Dog_init' kp_Dog_init, (fun_mk (st := s_Dog_init) lk_Dog_init cd_Dog_init' kp_Dog_init).binds (ps := P_Dog_init) fun _ _ _ _ _ _ us hl => match us, hl with | [_, _, _, _, _], _ => rfl⟩,
    m_Dog_has_enough := ⟨fm_Dog_has_enough, fi_Dog_has_enough, kp_Dog_has_enough⟩,
    F_Dog_has_enough := ⟨_, fun_mk (st := s_Dog_has_enough) lk_Dog_has_enough cd_Dog_has_enough' kp_Dog_has_enough, (fun_mk (st := s_Dog_has_enough) lk_Dog_has_enough cd_Dog_has_enough' kp_Dog_has_enough).binds (ps := P_Dog_has_enough) fun _ _ _ _ _ _ us hl => match us, hl with | [_, _, _, _, _, _], _ => rfl⟩,
    m_Dog_is_champion := ⟨fm_Dog_is_champion, fi_Dog_is_champion, kp_Dog_is_champion⟩,
    F_Dog_is_champion := ⟨_, fun_mk (st := s_Dog_is_champion) lk_Dog_is_champion cd_Dog_is_champion' kp_Dog_is_champion, (fun_mk (st := s_Dog_is_champion) lk_Dog_is_champion cd_Dog_is_champion' kp_Dog_is_champion).binds (ps := P_Dog_is_champion) fun _ _ _ _ _ _ us hl => match us, hl with | [_], _ => rfl⟩,
    m_Dog_is_young_champion := ⟨fm_Dog_is_young_champion, fi_Dog_is_young_champion, kp_Dog_is_young_champion⟩,
    F_Dog_is_young_champion := ⟨_, fun_mk (st := s_Dog_is_young_champion) lk_Dog_is_young_champion cd_Dog_is_young_champion' kp_Dog_is_young_champion, (fun_mk (st := s_Dog_is_young_champion) lk_Dog_is_young_champion cd_Dog_is_young_champion' kp_Dog_is_young_champion).binds (ps := P_Dog_is_young_champion) fun _ _ _ _ _ _ us hl => match us, hl with | [_], _ => rfl⟩,
    m_Dog_is_old_champion := ⟨fm_Dog_is_old_champion, fi_Dog_is_old_champion, kp_Dog_is_old_champion⟩,
    F_Dog_is_old_champion := ⟨_, fun_mk (st := s_Dog_is_old_champion) lk_Dog_is_old_champion cd_Dog_is_old_champion' kp_Dog_is_old_champion, (fun_mk (st := s_Dog_is_old_champion) lk_Dog_is_old_champion cd_Dog_is_old_champion' kp_Dog_is_old_champion).binds (ps := P_Dog_is_old_champion) fun _ _ _ _ _ _ us hl => match us, hl with | [_], _ => rfl⟩,
    m_Dog_is_international := ⟨fm_Dog_is_international, fi_Dog_is_international, kp_Dog_is_international⟩,
    F_Dog_is_international := ⟨_, fun_mk (st := s_Dog_is_international) lk_Dog_is_international cd_Dog_is_international' kp_Dog_is_international, (fun_mk (st := s_Dog_is_international) lk_Dog_is_international cd_Dog_is_international' kp_Dog_is_international).binds (ps := P_Dog_is_international) fun _ _ _ _ _ _ us hl => match us, hl with | [_], _ => rfl⟩,
    g_is_of_age := PySem.W.mg_of X G ag_is_of_age,
    k_is_of_age := kp_is_of_age,
    F_is_of_age := ⟨_, fun_mk (st := s_is_of_age) lk_is_of_age cd_is_of_age' kp_is_of_age, (fun_mk (st := s_is_of_age) lk_is_of_age cd_is_of_age' kp_is_of_age).binds (ps := P_is_of_age) fun _ _ _ _ _ _ us hl => match us, hl with | [_, _], _ => rfl⟩,
    F_Show_init := ⟨_, fun_mk (st := s_Show_init) lk_Show_init cd_Show_init' kp_Show_init, (fun_mk (st := s_Show_init) lk_Show_init cd_Show_init' kp_Show_init).binds (ps := P_Show_init) fun _ _ _ _ _ _ us hl => match us, hl with | [_, _, _, _, _], _ => rfl⟩,
    m_Show_class_of := ⟨fm_Show_class_of, fi_Show_class_of, kp_Show_class_of⟩,
    F_Show_class_of := ⟨_, fun_mk (st := s_Show_class_of) lk_Show_class_of cd_Show_class_of' kp_Show_class_of, (fun_mk (st := s_Show_class_of) lk_Show_class_of cd_Show_class_of' kp_Show_class_of).binds (ps := P_Show_class_of) fun _ _ _ _ _ _ us hl => match us, hl with | [_, _], _ => rfl⟩,
    m_Show_grade_of := ⟨fm_Show_grade_of, fi_Show_grade_of, kp_Show_grade_of⟩,
    F_Show_grade_of := ⟨_, fun_mk (st := s_Show_grade_of) lk_Show_grade_of cd_Show_grade_of' kp_Show_grade_of, (fun_mk (st := s_Show_grade_of) lk_Show_grade_of cd_Show_grade_of' kp_Show_grade_of).binds (ps := P_Show_grade_of) fun _ _ _ _ _ _ us hl => match us, hl with | [_, _], _ => rfl⟩,
    m_Show_placed := ⟨fm_Show_placed, fi_Show_placed, kp_Show_placed⟩,
    F_Show_placed := ⟨_, fun_mk (st := s_Show_placed) lk_Show_placed cd_Show_placed' kp_Show_placed, (fun_mk (st := s_Show_placed) lk_Show_placed cd_Show_placed' kp_Show_placed).binds (ps := P_Show_placed) fun _ _ _ _ _ _ us hl => match us, hl with | [_, _, _, _], _ => rfl⟩,
    m_Show_firsts := ⟨fm_Show_firsts, fi_Show_firsts, kp_Show_firsts⟩,
    F_Show_firsts := ⟨_, fun_mk (st := s_Show_firsts) lk_Show_firsts cd_Show_firsts' kp_Show_firsts, (fun_mk (st := s_Show_firsts) lk_Show_firsts cd_Show_firsts' kp_Show_firsts).binds (ps := P_Show_firsts) fun _ _ _ _ _ _ us hl => match us, hl with | [_, _], _ => rfl⟩,
    m_Show_holder := ⟨fm_Show_holder, fi_Show_holder, kp_Show_holder⟩,
    F_Show_holder := ⟨_, fun_mk (st := s_Show_holder) lk_Show_holder cd_Show_holder' kp_Show_holder, (fun_mk (st := s_Show_holder) lk_Show_holder cd_Show_holder' kp_Show_holder).binds (ps := P_Show_holder) fun _ _ _ _ _ _ us hl => match us, hl with | [_, _, _], _ => rfl⟩,
    m_Show_is_given := ⟨fm_Show_is_given, fi_Show_is_given, kp_Show_is_given⟩,
    F_Show_is_given := ⟨_, fun_mk (st := s_Show_is_given) lk_Show_is_given cd_Show_is_given' kp_Show_is_given, (fun_mk (st := s_Show_is_given) lk_Show_is_given cd_Show_is_given' kp_Show_is_given).binds (ps := P_Show_is_given) fun _ _ _ _ _ _ us hl => match us, hl with | [_, _], _ => rfl⟩,
    m_Show_may_have := ⟨fm_Show_may_have, fi_Show_may_have, kp_Show_may_have⟩,
    F_Show_may_have := ⟨_, fun_mk (st := s_Show_may_have) lk_Show_may_have cd_Show_may_have' kp_Show_may_have, (fun_mk (st := s_Show_may_have) lk_Show_may_have cd_Show_may_have' kp_Show_may_have).binds (ps := P_Show_may_have) fun _ _ _ _ _ _ us hl => match us, hl with | [_, _, _], _ => rfl⟩,
    m_Show_next_ones := ⟨fm_Show_next_ones, fi_Show_next_ones, kp_Show_next_ones⟩,
    F_Show_next_ones := ⟨_, fun_mk (st := s_Show_next_ones) lk_Show_next_ones cd_Show_next_ones' kp_Show_next_ones, (fun_mk (st := s_Show_next_ones) lk_Show_next_ones cd_Show_next_ones' kp_Show_next_ones).binds (ps := P_Show_next_ones) fun _ _ _ _ _ _ us hl => match us, hl with | [_, _, _], _ => rfl⟩,
    m_Show_bests := ⟨fm_Show_bests, fi_Show_bests, kp_Show_bests⟩,
    F_Show_bests := ⟨_, fun_mk (st := s_Show_bests) lk_Show_bests cd_Show_bests' kp_Show_bests, (fun_mk (st := s_Show_bests) lk_Show_bests cd_Show_bests' kp_Show_bests).binds (ps := P_Show_bests) fun _ _ _ _ _ _ us hl => match us, hl with | [_, _], _ => rfl⟩,
    m_Show_counts_as := ⟨fm_Show_counts_as, fi_Show_counts_as, kp_Show_counts_as⟩,
    F_Show_counts_as := ⟨_, fun_mk (st := s_Show_counts_as) lk_Show_counts_as cd_Show_counts_as' kp_Show_counts_as, (fun_mk (st := s_Show_counts_as) lk_Show_counts_as cd_Show_counts_as' kp_Show_counts_as).binds (ps := P_Show_counts_as) fun _ _ _ _ _ _ us hl => match us, hl with | [_, _, _], _ => rfl⟩,
    m_Show_kept_awards := ⟨fm_Show_kept_awards, fi_Show_kept_awards, kp_Show_kept_awards⟩,
    F_Show_kept_awards := ⟨_, fun_mk (st := s_Show_kept_awards) lk_Show_kept_awards cd_Show_kept_awards' kp_Show_kept_awards, (fun_mk (st := s_Show_kept_awards) lk_Show_kept_awards cd_Show_kept_awards' kp_Show_kept_awards).binds (ps := P_Show_kept_awards) fun _ _ _ _ _ _ us hl => match us, hl with | [_], _ => rfl⟩,
    F_Refusal_init := ⟨_, fun_mk (st := s_Refusal_init) lk_Refusal_init cd_Refusal_init' kp_Refusal_init, (fun_mk (st := s_Refusal_init) lk_Refusal_init cd_Refusal_init' kp_Refusal_init).binds (ps := P_Refusal_init) fun _ _ _ _ _ _ us hl => match us, hl with | [_, _], _ => rfl⟩,
    g_refuse_if := PySem.W.mg_of X G ag_refuse_if,
    k_refuse_if := kp_refuse_if,
    F_refuse_if := ⟨_, fun_mk (st := s_refuse_if) lk_refuse_if cd_refuse_if' kp_refuse_if, (fun_mk (st := s_refuse_if) lk_refuse_if cd_refuse_if' kp_refuse_if).binds (ps := P_refuse_if) fun _ _ _ _ _ _ us hl => match us, hl with | [_, _], _ => rfl⟩,
    g_is_class := PySem.W.mg_of X G ag_is_class,
    k_is_class := kp_is_class,
    F_is_class := ⟨_, fun_mk (st := s_is_class) lk_is_class cd_is_class' kp_is_class, (fun_mk (st := s_is_class) lk_is_class cd_is_class' kp_is_class).binds (ps := P_is_class) fun _ _ _ _ _ _ us hl => match us, hl with | [_], _ => rfl⟩,
    g_yes := PySem.W.mg_of X G ag_yes,
    k_yes := kp_yes,
    F_yes := ⟨_, fun_mk (st := s_yes) lk_yes cd_yes' kp_yes, (fun_mk (st := s_yes) lk_yes cd_yes' kp_yes).binds (ps := P_yes) fun _ _ _ _ _ _ us hl => match us, hl with | [_], _ => rfl⟩,
    F_Book_init := ⟨_, fun_mk (st := s_Book_init) lk_Book_init cd_Book_init' kp_Book_init, (fun_mk (st := s_Book_init) lk_Book_init cd_Book_init' kp_Book_init).binds (ps := P_Book_init) fun _ _ _ _ _ _ us hl => match us, hl with | [_], _ => rfl⟩,
    m_Book_has_dog := ⟨fm_Book_has_dog, fi_Book_has_dog, kp_Book_has_dog⟩,
    F_Book_has_dog := ⟨_, fun_mk (st := s_Book_has_dog) lk_Book_has_dog cd_Book_has_dog' kp_Book_has_dog, (fun_mk (st := s_Book_has_dog) lk_Book_has_dog cd_Book_has_dog' kp_Book_has_dog).binds (ps := P_Book_has_dog) fun _ _ _ _ _ _ us hl => match us, hl with | [_, _], _ => rfl⟩,
    m_Book_show_on := ⟨fm_Book_show_on, fi_Book_show_on, kp_Book_show_on⟩,
    F_Book_show_on := ⟨_, fun_mk (st := s_Book_show_on) lk_Book_show_on cd_Book_show_on' kp_Book_show_on, (fun_mk (st := s_Book_show_on) lk_Book_show_on cd_Book_show_on' kp_Book_show_on).binds (ps := P_Book_show_on) fun _ _ _ _ _ _ us hl => match us, hl with | [_], _ => rfl⟩,
    m_Book_add_dog := ⟨fm_Book_add_dog, fi_Book_add_dog, kp_Book_add_dog⟩,
    F_Book_add_dog := ⟨_, fun_mk (st := s_Book_add_dog) lk_Book_add_dog cd_Book_add_dog' kp_Book_add_dog, (fun_mk (st := s_Book_add_dog) lk_Book_add_dog cd_Book_add_dog' kp_Book_add_dog).binds (ps := P_Book_add_dog) fun _ _ _ _ _ _ us hl => match us, hl with | [_, _], _ => rfl⟩,
    m_Book_begin_show := ⟨fm_Book_begin_show, fi_Book_begin_show, kp_Book_begin_show⟩,
    F_Book_begin_show := ⟨_, fun_mk (st := s_Book_begin_show) lk_Book_begin_show cd_Book_begin_show' kp_Book_begin_show, (fun_mk (st := s_Book_begin_show) lk_Book_begin_show cd_Book_begin_show' kp_Book_begin_show).binds (ps := P_Book_begin_show) fun _ _ _ _ _ _ us hl => match us, hl with | [_, _], _ => rfl⟩,
    m_Book_enter := ⟨fm_Book_enter, fi_Book_enter, kp_Book_enter⟩,
    F_Book_enter := ⟨_, fun_mk (st := s_Book_enter) lk_Book_enter cd_Book_enter' kp_Book_enter, (fun_mk (st := s_Book_enter) lk_Book_enter cd_Book_enter' kp_Book_enter).binds (ps := P_Book_enter) fun _ _ _ _ _ _ us hl => match us, hl with | [_, _, _], _ => rfl⟩,
    m_Book_grade := ⟨fm_Book_grade, fi_Book_grade, kp_Book_grade⟩,
    F_Book_grade := ⟨_, fun_mk (st := s_Book_grade) lk_Book_grade cd_Book_grade' kp_Book_grade, (fun_mk (st := s_Book_grade) lk_Book_grade cd_Book_grade' kp_Book_grade).binds (ps := P_Book_grade) fun _ _ _ _ _ _ us hl => match us, hl with | [_, _, _], _ => rfl⟩,
    m_Book_row := ⟨fm_Book_row, fi_Book_row, kp_Book_row⟩,
    F_Book_row := ⟨_, fun_mk (st := s_Book_row) lk_Book_row cd_Book_row' kp_Book_row, (fun_mk (st := s_Book_row) lk_Book_row cd_Book_row' kp_Book_row).binds (ps := P_Book_row) fun _ _ _ _ _ _ us hl => match us, hl with | [_, _, _, _], _ => rfl⟩,
    m_Book_award := ⟨fm_Book_award, fi_Book_award, kp_Book_award⟩,
    F_Book_award := ⟨_, fun_mk (st := s_Book_award) lk_Book_award cd_Book_award' kp_Book_award, (fun_mk (st := s_Book_award) lk_Book_award cd_Book_award' kp_Book_award).binds (ps := P_Book_award) fun _ _ _ _ _ _ us hl => match us, hl with | [_, _, _], _ => rfl⟩,
    m_Book_close_show := ⟨fm_Book_close_show, fi_Book_close_show, kp_Book_close_show⟩,
    F_Book_close_show := ⟨_, fun_mk (st := s_Book_close_show) lk_Book_close_show cd_Book_close_show' kp_Book_close_show, (fun_mk (st := s_Book_close_show) lk_Book_close_show cd_Book_close_show' kp_Book_close_show).binds (ps := P_Book_close_show) fun _ _ _ _ _ _ us hl => match us, hl with | [_], _ => rfl⟩,
    m_Book_may := ⟨fm_Book_may, fi_Book_may, kp_Book_may⟩,
    F_Book_may := ⟨_, fun_mk (st := s_Book_may) lk_Book_may cd_Book_may' kp_Book_may, (fun_mk (st := s_Book_may) lk_Book_may cd_Book_may' kp_Book_may).binds (ps := P_Book_may) fun _ _ _ _ _ _ us hl => match us, hl with | [_, _, _], _ => rfl⟩,
    m_Book_titles := ⟨fm_Book_titles, fi_Book_titles, kp_Book_titles⟩,
    F_Book_titles := ⟨_, fun_mk (st := s_Book_titles) lk_Book_titles cd_Book_titles' kp_Book_titles, (fun_mk (st := s_Book_titles) lk_Book_titles cd_Book_titles' kp_Book_titles).binds (ps := P_Book_titles) fun _ _ _ _ _ _ us hl => match us, hl with | [_, _], _ => rfl⟩,
    m_Book_kept := ⟨fm_Book_kept, fi_Book_kept, kp_Book_kept⟩,
    F_Book_kept := ⟨_, fun_mk (st := s_Book_kept) lk_Book_kept cd_Book_kept' kp_Book_kept, (fun_mk (st := s_Book_kept) lk_Book_kept cd_Book_kept' kp_Book_kept).binds (ps := P_Book_kept) fun _ _ _ _ _ _ us hl => match us, hl with | [_, _], _ => rfl⟩,
    m_Book_now := ⟨fm_Book_now, fi_Book_now, kp_Book_now⟩,
    F_Book_now := ⟨_, fun_mk (st := s_Book_now) lk_Book_now cd_Book_now' kp_Book_now, (fun_mk (st := s_Book_now) lk_Book_now cd_Book_now' kp_Book_now).binds (ps := P_Book_now) fun _ _ _ _ _ _ us hl => match us, hl with | [_], _ => rfl⟩,
    g_answer := PySem.W.mg_of X G ag_answer,
    k_answer := kp_answer,
    F_answer := ⟨_, fun_mk (st := s_answer) lk_answer cd_answer' kp_answer, (fun_mk (st := s_answer) lk_answer cd_answer' kp_answer).binds (ps := P_answer) fun _ _ _ _ _ _ us hl => match us, hl with | [_, _, _, _], _ => rfl⟩,
    g_read_call := PySem.W.mg_of X G ag_read_call,
    k_read_call := kp_read_call,
    F_read_call := ⟨_, fun_mk (st := s_read_call) lk_read_call cd_read_call' kp_read_call, (fun_mk (st := s_read_call) lk_read_call cd_read_call' kp_read_call).binds (ps := P_read_call) fun _ _ _ _ _ _ us hl => match us, hl with | [_, _], _ => rfl⟩,
    g_answers := PySem.W.mg_of X G ag_answers,
    k_answers := kp_answers,
    F_answers := ⟨_, fun_mk (st := s_answers) lk_answers cd_answers' kp_answers, (fun_mk (st := s_answers) lk_answers cd_answers' kp_answers).binds (ps := P_answers) fun _ _ _ _ _ _ us hl => match us, hl with | [_], _ => rfl⟩,
    v_CERTIFICATE := ⟨_, PySem.W.mg_of X G ac_CERTIFICATE⟩,
    v_YOUNG := ⟨_, PySem.W.mg_of X G ac_YOUNG⟩,
    v_OLD := ⟨_, PySem.W.mg_of X G ac_OLD⟩,
    v_INTERNATIONAL := ⟨_, PySem.W.mg_of X G ac_INTERNATIONAL⟩,
    v_LONG := ⟨_, PySem.W.mg_of X G ac_LONG⟩,
    v_YOUNG_CLASS := ⟨_, PySem.W.mg_of X G ac_YOUNG_CLASS⟩,
    v_WORKING := ⟨_, PySem.W.mg_of X G ac_WORKING⟩,
    v_CHAMPIONS := ⟨_, PySem.W.mg_of X G ac_CHAMPIONS⟩,
    v_OLD_CLASS := ⟨_, PySem.W.mg_of X G ac_OLD_CLASS⟩,
    v_EXCELLENT := ⟨_, PySem.W.mg_of X G ac_EXCELLENT⟩,
    v_NEXT := ⟨_, PySem.W.mg_of X G ac_NEXT⟩,
    v_NEXT_INTERNATIONAL := ⟨_, PySem.W.mg_of X G ac_NEXT_INTERNATIONAL⟩,
    v_BEST := ⟨_, PySem.W.mg_of X G ac_BEST⟩,
    v_OTHER_BEST := ⟨_, PySem.W.mg_of X G ac_OTHER_BEST⟩,
    v_MOST_DOGS := ⟨_, PySem.W.mg_of X G ac_MOST_DOGS⟩,
    v_MOST_ROW := ⟨_, PySem.W.mg_of X G ac_MOST_ROW⟩,
    g_GROWN := PySem.W.mg_of X G at_GROWN,
    q_GROWN := fun H => tup_of (xs := [.int 2, .int 3, .int 4, .int 5]) lt_GROWN (by show 4 ≤ 100; decide) (.cons ⟨_, rfl⟩ (.cons ⟨_, rfl⟩ (.cons ⟨_, rfl⟩ (.cons ⟨_, rfl⟩ .nil)))) H,
    g_AGES := PySem.W.mg_of X G at_AGES,
    q_AGES := ⟨[p_AGES_0, p_AGES_1, p_AGES_2, p_AGES_3, p_AGES_4, p_AGES_5, p_AGES_6], rfl, fun H => tup_of (xs := [.ref p_AGES_0, .ref p_AGES_1, .ref p_AGES_2, .ref p_AGES_3, .ref p_AGES_4, .ref p_AGES_5, .ref p_AGES_6]) lt_AGES (by show 7 ≤ 100; decide) (.cons rfl (.cons rfl (.cons rfl (.cons rfl (.cons rfl (.cons rfl (.cons rfl .nil))))))) H, fun H i p hp => match i, hp with
    | 0, hp => by
      cases hp
      exact ⟨183, 273, rfl, tup_of (xs := [.int 183, .int 273]) lt_AGES_0 (by show 2 ≤ 100; decide) (.cons ⟨_, rfl⟩ (.cons ⟨_, rfl⟩ .nil)) H⟩
    | 1, hp => by
      cases hp
      exact ⟨274, 548, rfl, tup_of (xs := [.int 274, .int 548]) lt_AGES_1 (by show 2 ≤ 100; decide) (.cons ⟨_, rfl⟩ (.cons ⟨_, rfl⟩ .nil)) H⟩
    | 2, hp => by
      cases hp
      exact ⟨457, 730, rfl, tup_of (xs := [.int 457, .int 730]) lt_AGES_2 (by show 2 ≤ 100; decide) (.cons ⟨_, rfl⟩ (.cons ⟨_, rfl⟩ .nil)) H⟩
    | 3, hp => by
      cases hp
      exact ⟨457, 0, rfl, tup_of (xs := [.int 457, .int 0]) lt_AGES_3 (by show 2 ≤ 100; decide) (.cons ⟨_, rfl⟩ (.cons ⟨_, rfl⟩ .nil)) H⟩
    | 4, hp => by
      cases hp
      exact ⟨457, 0, rfl, tup_of (xs := [.int 457, .int 0]) lt_AGES_4 (by show 2 ≤ 100; decide) (.cons ⟨_, rfl⟩ (.cons ⟨_, rfl⟩ .nil)) H⟩
    | 5, hp => by
      cases hp
      exact ⟨457, 0, rfl, tup_of (xs := [.int 457, .int 0]) lt_AGES_5 (by show 2 ≤ 100; decide) (.cons ⟨_, rfl⟩ (.cons ⟨_, rfl⟩ .nil)) H⟩
    | 6, hp => by
      cases hp
      exact ⟨2922, 0, rfl, tup_of (xs := [.int 2922, .int 0]) lt_AGES_6 (by show 2 ≤ 100; decide) (.cons ⟨_, rfl⟩ (.cons ⟨_, rfl⟩ .nil)) H⟩
    | _ + 7, hp => nomatch hp⟩,
    g_AWARDS := PySem.W.mg_of X G at_AWARDS,
    q_AWARDS := fun H => tup_of (xs := [.int 0, .int 1, .int 4, .int 5, .int 6, .int 7]) lt_AWARDS (by show 6 ≤ 100; decide) (.cons ⟨_, rfl⟩ (.cons ⟨_, rfl⟩ (.cons ⟨_, rfl⟩ (.cons ⟨_, rfl⟩ (.cons ⟨_, rfl⟩ (.cons ⟨_, rfl⟩ .nil)))))) H,
    g_FORMS := PySem.W.mg_of X G at_FORMS,
    q_FORMS := ⟨[p_FORMS_0, p_FORMS_1, p_FORMS_2, p_FORMS_3, p_FORMS_4, p_FORMS_5, p_FORMS_6, p_FORMS_7, p_FORMS_8, p_FORMS_9, p_FORMS_10, p_FORMS_11], rfl, fun H => tup_of (xs := [.ref p_FORMS_0, .ref p_FORMS_1, .ref p_FORMS_2, .ref p_FORMS_3, .ref p_FORMS_4, .ref p_FORMS_5, .ref p_FORMS_6, .ref p_FORMS_7, .ref p_FORMS_8, .ref p_FORMS_9, .ref p_FORMS_10, .ref p_FORMS_11]) lt_FORMS (by show 12 ≤ 100; decide) (.cons rfl (.cons rfl (.cons rfl (.cons rfl (.cons rfl (.cons rfl (.cons rfl (.cons rfl (.cons rfl (.cons rfl (.cons rfl (.cons rfl .nil)))))))))))) H, fun H i p hp => match i, hp with
    | 0, hp => by
      cases hp
      exact ⟨0, 0, rfl, tup_of (xs := [.int 0, .int 0]) lt_FORMS_0 (by show 2 ≤ 100; decide) (.cons ⟨_, rfl⟩ (.cons ⟨_, rfl⟩ .nil)) H⟩
    | 1, hp => by
      cases hp
      exact ⟨3, 0, rfl, tup_of (xs := [.int 3, .int 0]) lt_FORMS_1 (by show 2 ≤ 100; decide) (.cons ⟨_, rfl⟩ (.cons ⟨_, rfl⟩ .nil)) H⟩
    | 2, hp => by
      cases hp
      exact ⟨4, 0, rfl, tup_of (xs := [.int 4, .int 0]) lt_FORMS_2 (by show 2 ≤ 100; decide) (.cons ⟨_, rfl⟩ (.cons ⟨_, rfl⟩ .nil)) H⟩
    | 3, hp => by
      cases hp
      exact ⟨2, 0, rfl, tup_of (xs := [.int 2, .int 0]) lt_FORMS_3 (by show 2 ≤ 100; decide) (.cons ⟨_, rfl⟩ (.cons ⟨_, rfl⟩ .nil)) H⟩
    | 4, hp => by
      cases hp
      exact ⟨2, 0, rfl, tup_of (xs := [.int 2, .int 0]) lt_FORMS_4 (by show 2 ≤ 100; decide) (.cons ⟨_, rfl⟩ (.cons ⟨_, rfl⟩ .nil)) H⟩
    | 5, hp => by
      cases hp
      exact ⟨2, 1, rfl, tup_of (xs := [.int 2, .int 1]) lt_FORMS_5 (by show 2 ≤ 100; decide) (.cons ⟨_, rfl⟩ (.cons ⟨_, rfl⟩ .nil)) H⟩
    | 6, hp => by
      cases hp
      exact ⟨2, 0, rfl, tup_of (xs := [.int 2, .int 0]) lt_FORMS_6 (by show 2 ≤ 100; decide) (.cons ⟨_, rfl⟩ (.cons ⟨_, rfl⟩ .nil)) H⟩
    | 7, hp => by
      cases hp
      exact ⟨0, 0, rfl, tup_of (xs := [.int 0, .int 0]) lt_FORMS_7 (by show 2 ≤ 100; decide) (.cons ⟨_, rfl⟩ (.cons ⟨_, rfl⟩ .nil)) H⟩
    | 8, hp => by
      cases hp
      exact ⟨2, 0, rfl, tup_of (xs := [.int 2, .int 0]) lt_FORMS_8 (by show 2 ≤ 100; decide) (.cons ⟨_, rfl⟩ (.cons ⟨_, rfl⟩ .nil)) H⟩
    | 9, hp => by
      cases hp
      exact ⟨1, 0, rfl, tup_of (xs := [.int 1, .int 0]) lt_FORMS_9 (by show 2 ≤ 100; decide) (.cons ⟨_, rfl⟩ (.cons ⟨_, rfl⟩ .nil)) H⟩
    | 10, hp => by
      cases hp
      exact ⟨1, 0, rfl, tup_of (xs := [.int 1, .int 0]) lt_FORMS_10 (by show 2 ≤ 100; decide) (.cons ⟨_, rfl⟩ (.cons ⟨_, rfl⟩ .nil)) H⟩
    | 11, hp => by
      cases hp
      exact ⟨0, 0, rfl, tup_of (xs := [.int 0, .int 0]) lt_FORMS_11 (by show 2 ≤ 100; decide) (.cons ⟨_, rfl⟩ (.cons ⟨_, rfl⟩ .nil)) H⟩
    | _ + 12, hp => nomatch hp⟩,
    b_len := PySem.W.mg_none_of X G ab_len,
    b_max := PySem.W.mg_none_of X G ab_max,
    b_min := PySem.W.mg_none_of X G ab_min,
    b_set := PySem.W.mg_none_of X G ab_set,
    b_any := PySem.W.mg_none_of X G ab_any,
    b_all := PySem.W.mg_none_of X G ab_all,
    b_ValueError := PySem.W.mg_none_of X G ab_ValueError,
    g_Refusal := PySem.W.mg_of X G aC_Refusal,
    oex := ⟨⟨nm, q, N, bs, _, sn, sub, ab, col, dd, m0, m1, m2, m3, m5, xL, by decide +kernel⟩, saR, eCR, tCR, kCR⟩,
    iC := inR,
    tI := tiR,
    nNum := nbR,
    xf := ⟨gaR, ggR, eCR, hCR⟩,
    vV := vVR,
    te := exm_self eCR iCR tCR sCR }
/-- the def that the row calls -/
theorem all_end {P : Program} {w : World} {K : PySem.W.Frag} {h : Heap} {mg : Str → Option Value} {fa : Addr} (X : K.In h) (G : h.Ns mainGlobals mg) (hfa : mg "answers" = some (.ref fa)) {c : Cs} (T : Txt K mg c)
    {oc kV dc pm cd ct : Value} {od an : Option Addr} {sl : Array (Option Value)} (a : PySem.W.nsIn K mainGlobals "answers" = some (some (.ref c.f_answers)))
    (l : K.lookup c.f_answers = some ⟨oc, od, .func (PySem.W.fnOf "answers" "answers" (defArgs s_answers) (defBody s_answers) (defScope s_answers) .none kV dc pm an cd ct), sl⟩) (cq : PySem.W.codeIn K cd "answers" = true) (k : PySem.W.keepIn K (.ref c.f_answers) = true) :
    ∃ fd : FuncData, (∀ (s : Shared) (us : List Value), us.length = (["calls"] : List Str).length → BindsTo s fd ⟨us, []⟩ ((["calls"] : List Str).zip us)) ∧
      ∀ base : Heap, K.In base → base.Ns mainGlobals mg → FnOk P w K mg base CX0 8 fa fd ["calls"] (sp_top K) := by
  have e := hfa.symm.trans (PySem.W.mg_of X G a)
  cases e
  exact ⟨PySem.W.fnOf "answers" "answers" (defArgs s_answers) (defBody s_answers) (defScope s_answers) .none kV dc pm an cd ct, fun s us hu => match us, hu with | [_], _ => .of_eq rfl, fun base _ _ => ok_answers T (fun_mk (st := s_answers) l cq k)⟩
end Ds
open PySem PySem.W PyProof.Rows
set_option maxRecDepth 100000 in
set_option maxHeartbeats 40000000 in
theorem PySem.Challenge.cw_dogshows_s01_answers_holds : PySem.Challenge.rw_dogshows_s01_answers.Holds := by
  w_on; k_headS; (case hw => exact ⟨[.list [.int 1]], by decide +kernel, by decide +kernel⟩)
  k_fillS
  refine L2.walk_specK (r := PySem.Challenge.rw_dogshows_s01_answers) (k := 8) (CX := L2.CX0) (ps := ["calls"]) (sp := Ds.sp_top) (by decide +kernel) rfl rfl ⟨rfl, by decide, by decide⟩ (fun w h Y => PySem.W.kIn_of Y) ?F ?S (fun _ _ _ _ z => z)
  case F =>
    intro w mg fa h Y KX G hmg
    refine' Ds.all_end KX G hmg (Ds.all_mk KX G ?aC_Award ?pg_Award ?hd_Award ?po_Award ?sa_Award ?mk_Award ?kc_Award ?in_Award ?if_Award ?na_Award_kind ?na_Award_day ?na_Award_judge ?na_Award_country ?aC_Dog ?pg_Dog ?hd_Dog ?po_Dog ?sa_Dog ?mk_Dog ?kc_Dog ?in_Dog ?if_Dog ?na_Dog_number ?na_Dog_sex ?na_Dog_born ?na_Dog_worked ?na_Dog_awards ?aC_Show ?pg_Show ?hd_Show ?po_Show ?sa_Show ?mk_Show ?kc_Show ?in_Show ?if_Show ?na_Show_day ?na_Show_judge ?na_Show_country ?na_Show_international ?na_Show_entered ?na_Show_grades ?na_Show_rows ?na_Show_given ?aC_Book ?pg_Book ?hd_Book ?po_Book ?sa_Book ?mk_Book ?kc_Book ?in_Book ?if_Book ?na_Book_dogs ?na_Book_show ?na_Book_last_day ?aC_Refusal ?xL ?saR ?gaR ?ggR ?nbR ?inR ?tiR ?kCR ?eCR ?tCR ?hCR ?iCR ?sCR ?vVR ?lk_Award_init ?cd_Award_init' ?kp_Award_init ?lk_Dog_init ?cd_Dog_init' ?kp_Dog_init ?fm_Dog_has_enough ?fi_Dog_has_enough ?lk_Dog_has_enough ?cd_Dog_has_enough' ?kp_Dog_has_enough ?fm_Dog_is_champion ?fi_Dog_is_champion ?lk_Dog_is_champion ?cd_Dog_is_champion' ?kp_Dog_is_champion ?fm_Dog_is_young_champion ?fi_Dog_is_young_champion ?lk_Dog_is_young_champion ?cd_Dog_is_young_champion' ?kp_Dog_is_young_champion ?fm_Dog_is_old_champion ?fi_Dog_is_old_champion ?lk_Dog_is_old_champion ?cd_Dog_is_old_champion' ?kp_Dog_is_old_champion ?fm_Dog_is_international ?fi_Dog_is_international ?lk_Dog_is_international ?cd_Dog_is_international' ?kp_Dog_is_international ?ag_is_of_age ?lk_is_of_age ?cd_is_of_age' ?kp_is_of_age ?lk_Show_init ?cd_Show_init' ?kp_Show_init ?fm_Show_class_of ?fi_Show_class_of ?lk_Show_class_of ?cd_Show_class_of' ?kp_Show_class_of ?fm_Show_grade_of ?fi_Show_grade_of ?lk_Show_grade_of ?cd_Show_grade_of' ?kp_Show_grade_of ?fm_Show_placed ?fi_Show_placed ?lk_Show_placed ?cd_Show_placed' ?kp_Show_placed ?fm_Show_firsts ?fi_Show_firsts ?lk_Show_firsts ?cd_Show_firsts' ?kp_Show_firsts ?fm_Show_holder ?fi_Show_holder ?lk_Show_holder ?cd_Show_holder' ?kp_Show_holder ?fm_Show_is_given ?fi_Show_is_given ?lk_Show_is_given ?cd_Show_is_given' ?kp_Show_is_given ?fm_Show_may_have ?fi_Show_may_have ?lk_Show_may_have ?cd_Show_may_have' ?kp_Show_may_have ?fm_Show_next_ones ?fi_Show_next_ones ?lk_Show_next_ones ?cd_Show_next_ones' ?kp_Show_next_ones ?fm_Show_bests ?fi_Show_bests ?lk_Show_bests ?cd_Show_bests' ?kp_Show_bests ?fm_Show_counts_as ?fi_Show_counts_as ?lk_Show_counts_as ?cd_Show_counts_as' ?kp_Show_counts_as ?fm_Show_kept_awards ?fi_Show_kept_awards ?lk_Show_kept_awards ?cd_Show_kept_awards' ?kp_Show_kept_awards ?lk_Refusal_init ?cd_Refusal_init' ?kp_Refusal_init ?ag_refuse_if ?lk_refuse_if ?cd_refuse_if' ?kp_refuse_if ?ag_is_class ?lk_is_class ?cd_is_class' ?kp_is_class ?ag_yes ?lk_yes ?cd_yes' ?kp_yes ?lk_Book_init ?cd_Book_init' ?kp_Book_init ?fm_Book_has_dog ?fi_Book_has_dog ?lk_Book_has_dog ?cd_Book_has_dog' ?kp_Book_has_dog ?fm_Book_show_on ?fi_Book_show_on ?lk_Book_show_on ?cd_Book_show_on' ?kp_Book_show_on ?fm_Book_add_dog ?fi_Book_add_dog ?lk_Book_add_dog ?cd_Book_add_dog' ?kp_Book_add_dog ?fm_Book_begin_show ?fi_Book_begin_show ?lk_Book_begin_show ?cd_Book_begin_show' ?kp_Book_begin_show ?fm_Book_enter ?fi_Book_enter ?lk_Book_enter ?cd_Book_enter' ?kp_Book_enter ?fm_Book_grade ?fi_Book_grade ?lk_Book_grade ?cd_Book_grade' ?kp_Book_grade ?fm_Book_row ?fi_Book_row ?lk_Book_row ?cd_Book_row' ?kp_Book_row ?fm_Book_award ?fi_Book_award ?lk_Book_award ?cd_Book_award' ?kp_Book_award ?fm_Book_close_show ?fi_Book_close_show ?lk_Book_close_show ?cd_Book_close_show' ?kp_Book_close_show ?fm_Book_may ?fi_Book_may ?lk_Book_may ?cd_Book_may' ?kp_Book_may ?fm_Book_titles ?fi_Book_titles ?lk_Book_titles ?cd_Book_titles' ?kp_Book_titles ?fm_Book_kept ?fi_Book_kept ?lk_Book_kept ?cd_Book_kept' ?kp_Book_kept ?fm_Book_now ?fi_Book_now ?lk_Book_now ?cd_Book_now' ?kp_Book_now ?ag_answer ?lk_answer ?cd_answer' ?kp_answer ?ag_read_call ?lk_read_call ?cd_read_call' ?kp_read_call ?ag_answers ?lk_answers ?cd_answers' ?kp_answers ?ac_CERTIFICATE ?ac_YOUNG ?ac_OLD ?ac_INTERNATIONAL ?ac_LONG ?ac_YOUNG_CLASS ?ac_WORKING ?ac_CHAMPIONS ?ac_OLD_CLASS ?ac_EXCELLENT ?ac_NEXT ?ac_NEXT_INTERNATIONAL ?ac_BEST ?ac_OTHER_BEST ?ac_MOST_DOGS ?ac_MOST_ROW ?at_GROWN ?lt_GROWN ?at_AGES ?lt_AGES ?lt_AGES_0 ?lt_AGES_1 ?lt_AGES_2 ?lt_AGES_3 ?lt_AGES_4 ?lt_AGES_5 ?lt_AGES_6 ?at_AWARDS ?lt_AWARDS ?at_FORMS ?lt_FORMS ?lt_FORMS_0 ?lt_FORMS_1 ?lt_FORMS_2 ?lt_FORMS_3 ?lt_FORMS_4 ?lt_FORMS_5 ?lt_FORMS_6 ?lt_FORMS_7 ?lt_FORMS_8 ?lt_FORMS_9 ?lt_FORMS_10 ?lt_FORMS_11 ?ab_len ?ab_max ?ab_min ?ab_set ?ab_any ?ab_all ?ab_ValueError) ?ag_answers ?lk_answers ?cd_answers' ?kp_answers
    (case aC_Award => first | k_is | rfl | decide +kernel)
    (case pg_Award => first | k_is | rfl | decide +kernel)
    (case hd_Award => first | k_is | rfl | decide +kernel)
    (case po_Award => first | k_is | rfl | decide +kernel)
    (case sa_Award => first | k_is | rfl | decide +kernel)
    (case mk_Award => first | k_is | rfl | decide +kernel)
    (case kc_Award => first | k_is | rfl | decide +kernel)
    (case in_Award => first | k_is | rfl | decide +kernel)
    (case if_Award => first | k_is | rfl | decide +kernel)
    (case na_Award_kind => first | k_is | rfl | decide +kernel)
    (case na_Award_day => first | k_is | rfl | decide +kernel)
    (case na_Award_judge => first | k_is | rfl | decide +kernel)
    (case na_Award_country => first | k_is | rfl | decide +kernel)
    (case aC_Dog => first | k_is | rfl | decide +kernel)
    (case pg_Dog => first | k_is | rfl | decide +kernel)
    (case hd_Dog => first | k_is | rfl | decide +kernel)
    (case po_Dog => first | k_is | rfl | decide +kernel)
    (case sa_Dog => first | k_is | rfl | decide +kernel)
    (case mk_Dog => first | k_is | rfl | decide +kernel)
    (case kc_Dog => first | k_is | rfl | decide +kernel)
    (case in_Dog => first | k_is | rfl | decide +kernel)
    (case if_Dog => first | k_is | rfl | decide +kernel)
    (case na_Dog_number => first | k_is | rfl | decide +kernel)
    (case na_Dog_sex => first | k_is | rfl | decide +kernel)
    (case na_Dog_born => first | k_is | rfl | decide +kernel)
    (case na_Dog_worked => first | k_is | rfl | decide +kernel)
    (case na_Dog_awards => first | k_is | rfl | decide +kernel)
    (case aC_Show => first | k_is | rfl | decide +kernel)
    (case pg_Show => first | k_is | rfl | decide +kernel)
    (case hd_Show => first | k_is | rfl | decide +kernel)
    (case po_Show => first | k_is | rfl | decide +kernel)
    (case sa_Show => first | k_is | rfl | decide +kernel)
    (case mk_Show => first | k_is | rfl | decide +kernel)
    (case kc_Show => first | k_is | rfl | decide +kernel)
    (case in_Show => first | k_is | rfl | decide +kernel)
    (case if_Show => first | k_is | rfl | decide +kernel)
    (case na_Show_day => first | k_is | rfl | decide +kernel)
    (case na_Show_judge => first | k_is | rfl | decide +kernel)
    (case na_Show_country => first | k_is | rfl | decide +kernel)
    (case na_Show_international => first | k_is | rfl | decide +kernel)
    (case na_Show_entered => first | k_is | rfl | decide +kernel)
    (case na_Show_grades => first | k_is | rfl | decide +kernel)
    (case na_Show_rows => first | k_is | rfl | decide +kernel)
    (case na_Show_given => first | k_is | rfl | decide +kernel)
    (case aC_Book => first | k_is | rfl | decide +kernel)
    (case pg_Book => first | k_is | rfl | decide +kernel)
    (case hd_Book => first | k_is | rfl | decide +kernel)
    (case po_Book => first | k_is | rfl | decide +kernel)
    (case sa_Book => first | k_is | rfl | decide +kernel)
    (case mk_Book => first | k_is | rfl | decide +kernel)
    (case kc_Book => first | k_is | rfl | decide +kernel)
    (case in_Book => first | k_is | rfl | decide +kernel)
    (case if_Book => first | k_is | rfl | decide +kernel)
    (case na_Book_dogs => first | k_is | rfl | decide +kernel)
    (case na_Book_show => first | k_is | rfl | decide +kernel)
    (case na_Book_last_day => first | k_is | rfl | decide +kernel)
    (case aC_Refusal => first | k_is | rfl | decide +kernel)
    (case xL => first | k_is | rfl | decide +kernel)
    (case saR => first | k_is | rfl | decide +kernel)
    (case gaR => first | k_is | rfl | decide +kernel)
    (case ggR => first | k_is | rfl | decide +kernel)
    (case nbR => first | k_is | rfl | decide +kernel)
    (case inR => first | k_is | rfl | decide +kernel)
    (case tiR => first | k_is | rfl | decide +kernel)
    (case kCR => first | k_is | rfl | decide +kernel)
    (case eCR => first | k_is | rfl | decide +kernel)
    (case tCR => first | k_is | rfl | decide +kernel)
    (case hCR => first | k_is | rfl | decide +kernel)
    (case iCR => first | k_is | rfl | decide +kernel)
    (case sCR => first | k_is | rfl | decide +kernel)
    (case vVR => first | k_is | rfl | decide +kernel)
    (case lk_Award_init => first | k_is | rfl | decide +kernel)
    (case cd_Award_init' => first | k_is | rfl | decide +kernel)
    (case kp_Award_init => first | k_is | rfl | decide +kernel)
    (case lk_Dog_init => first | k_is | rfl | decide +kernel)
    (case cd_Dog_init' => first | k_is | rfl | decide +kernel)
    (case kp_Dog_init => first | k_is | rfl | decide +kernel)
    (case fm_Dog_has_enough => first | k_is | rfl | decide +kernel)
    (case fi_Dog_has_enough => first | k_is | rfl | decide +kernel)
    (case lk_Dog_has_enough => first | k_is | rfl | decide +kernel)
    (case cd_Dog_has_enough' => first | k_is | rfl | decide +kernel)
    (case kp_Dog_has_enough => first | k_is | rfl | decide +kernel)
    (case fm_Dog_is_champion => first | k_is | rfl | decide +kernel)
    (case fi_Dog_is_champion => first | k_is | rfl | decide +kernel)
    (case lk_Dog_is_champion => first | k_is | rfl | decide +kernel)
    (case cd_Dog_is_champion' => first | k_is | rfl | decide +kernel)
    (case kp_Dog_is_champion => first | k_is | rfl | decide +kernel)
    (case fm_Dog_is_young_champion => first | k_is | rfl | decide +kernel)
    (case fi_Dog_is_young_champion => first | k_is | rfl | decide +kernel)
    (case lk_Dog_is_young_champion => first | k_is | rfl | decide +kernel)
    (case cd_Dog_is_young_champion' => first | k_is | rfl | decide +kernel)
    (case kp_Dog_is_young_champion => first | k_is | rfl | decide +kernel)
    (case fm_Dog_is_old_champion => first | k_is | rfl | decide +kernel)
    (case fi_Dog_is_old_champion => first | k_is | rfl | decide +kernel)
    (case lk_Dog_is_old_champion => first | k_is | rfl | decide +kernel)
    (case cd_Dog_is_old_champion' => first | k_is | rfl | decide +kernel)
    (case kp_Dog_is_old_champion => first | k_is | rfl | decide +kernel)
    (case fm_Dog_is_international => first | k_is | rfl | decide +kernel)
    (case fi_Dog_is_international => first | k_is | rfl | decide +kernel)
    (case lk_Dog_is_international => first | k_is | rfl | decide +kernel)
    (case cd_Dog_is_international' => first | k_is | rfl | decide +kernel)
    (case kp_Dog_is_international => first | k_is | rfl | decide +kernel)
    (case ag_is_of_age => first | k_is | rfl | decide +kernel)
    (case lk_is_of_age => first | k_is | rfl | decide +kernel)
    (case cd_is_of_age' => first | k_is | rfl | decide +kernel)
    (case kp_is_of_age => first | k_is | rfl | decide +kernel)
    (case lk_Show_init => first | k_is | rfl | decide +kernel)
    (case cd_Show_init' => first | k_is | rfl | decide +kernel)
    (case kp_Show_init => first | k_is | rfl | decide +kernel)
    (case fm_Show_class_of => first | k_is | rfl | decide +kernel)
    (case fi_Show_class_of => first | k_is | rfl | decide +kernel)
    (case lk_Show_class_of => first | k_is | rfl | decide +kernel)
    (case cd_Show_class_of' => first | k_is | rfl | decide +kernel)
    (case kp_Show_class_of => first | k_is | rfl | decide +kernel)
    (case fm_Show_grade_of => first | k_is | rfl | decide +kernel)
    (case fi_Show_grade_of => first | k_is | rfl | decide +kernel)
    (case lk_Show_grade_of => first | k_is | rfl | decide +kernel)
    (case cd_Show_grade_of' => first | k_is | rfl | decide +kernel)
    (case kp_Show_grade_of => first | k_is | rfl | decide +kernel)
    (case fm_Show_placed => first | k_is | rfl | decide +kernel)
    (case fi_Show_placed => first | k_is | rfl | decide +kernel)
    (case lk_Show_placed => first | k_is | rfl | decide +kernel)
    (case cd_Show_placed' => first | k_is | rfl | decide +kernel)
    (case kp_Show_placed => first | k_is | rfl | decide +kernel)
    (case fm_Show_firsts => first | k_is | rfl | decide +kernel)
    (case fi_Show_firsts => first | k_is | rfl | decide +kernel)
    (case lk_Show_firsts => first | k_is | rfl | decide +kernel)
    (case cd_Show_firsts' => first | k_is | rfl | decide +kernel)
    (case kp_Show_firsts => first | k_is | rfl | decide +kernel)
    (case fm_Show_holder => first | k_is | rfl | decide +kernel)
    (case fi_Show_holder => first | k_is | rfl | decide +kernel)
    (case lk_Show_holder => first | k_is | rfl | decide +kernel)
    (case cd_Show_holder' => first | k_is | rfl | decide +kernel)
    (case kp_Show_holder => first | k_is | rfl | decide +kernel)
    (case fm_Show_is_given => first | k_is | rfl | decide +kernel)
    (case fi_Show_is_given => first | k_is | rfl | decide +kernel)
    (case lk_Show_is_given => first | k_is | rfl | decide +kernel)
    (case cd_Show_is_given' => first | k_is | rfl | decide +kernel)
    (case kp_Show_is_given => first | k_is | rfl | decide +kernel)
    (case fm_Show_may_have => first | k_is | rfl | decide +kernel)
    (case fi_Show_may_have => first | k_is | rfl | decide +kernel)
    (case lk_Show_may_have => first | k_is | rfl | decide +kernel)
    (case cd_Show_may_have' => first | k_is | rfl | decide +kernel)
    (case kp_Show_may_have => first | k_is | rfl | decide +kernel)
    (case fm_Show_next_ones => first | k_is | rfl | decide +kernel)
    (case fi_Show_next_ones => first | k_is | rfl | decide +kernel)
    (case lk_Show_next_ones => first | k_is | rfl | decide +kernel)
    (case cd_Show_next_ones' => first | k_is | rfl | decide +kernel)
    (case kp_Show_next_ones => first | k_is | rfl | decide +kernel)
    (case fm_Show_bests => first | k_is | rfl | decide +kernel)
    (case fi_Show_bests => first | k_is | rfl | decide +kernel)
    (case lk_Show_bests => first | k_is | rfl | decide +kernel)
    (case cd_Show_bests' => first | k_is | rfl | decide +kernel)
    (case kp_Show_bests => first | k_is | rfl | decide +kernel)
    (case fm_Show_counts_as => first | k_is | rfl | decide +kernel)
    (case fi_Show_counts_as => first | k_is | rfl | decide +kernel)
    (case lk_Show_counts_as => first | k_is | rfl | decide +kernel)
    (case cd_Show_counts_as' => first | k_is | rfl | decide +kernel)
    (case kp_Show_counts_as => first | k_is | rfl | decide +kernel)
    (case fm_Show_kept_awards => first | k_is | rfl | decide +kernel)
    (case fi_Show_kept_awards => first | k_is | rfl | decide +kernel)
    (case lk_Show_kept_awards => first | k_is | rfl | decide +kernel)
    (case cd_Show_kept_awards' => first | k_is | rfl | decide +kernel)
    (case kp_Show_kept_awards => first | k_is | rfl | decide +kernel)
    (case lk_Refusal_init => first | k_is | rfl | decide +kernel)
    (case cd_Refusal_init' => first | k_is | rfl | decide +kernel)
    (case kp_Refusal_init => first | k_is | rfl | decide +kernel)
    (case ag_refuse_if => first | k_is | rfl | decide +kernel)
    (case lk_refuse_if => first | k_is | rfl | decide +kernel)
    (case cd_refuse_if' => first | k_is | rfl | decide +kernel)
    (case kp_refuse_if => first | k_is | rfl | decide +kernel)
    (case ag_is_class => first | k_is | rfl | decide +kernel)
    (case lk_is_class => first | k_is | rfl | decide +kernel)
    (case cd_is_class' => first | k_is | rfl | decide +kernel)
    (case kp_is_class => first | k_is | rfl | decide +kernel)
    (case ag_yes => first | k_is | rfl | decide +kernel)
    (case lk_yes => first | k_is | rfl | decide +kernel)
    (case cd_yes' => first | k_is | rfl | decide +kernel)
    (case kp_yes => first | k_is | rfl | decide +kernel)
    (case lk_Book_init => first | k_is | rfl | decide +kernel)
    (case cd_Book_init' => first | k_is | rfl | decide +kernel)
    (case kp_Book_init => first | k_is | rfl | decide +kernel)
    (case fm_Book_has_dog => first | k_is | rfl | decide +kernel)
    (case fi_Book_has_dog => first | k_is | rfl | decide +kernel)
    (case lk_Book_has_dog => first | k_is | rfl | decide +kernel)
    (case cd_Book_has_dog' => first | k_is | rfl | decide +kernel)
    (case kp_Book_has_dog => first | k_is | rfl | decide +kernel)
    (case fm_Book_show_on => first | k_is | rfl | decide +kernel)
    (case fi_Book_show_on => first | k_is | rfl | decide +kernel)
    (case lk_Book_show_on => first | k_is | rfl | decide +kernel)
    (case cd_Book_show_on' => first | k_is | rfl | decide +kernel)
    (case kp_Book_show_on => first | k_is | rfl | decide +kernel)
    (case fm_Book_add_dog => first | k_is | rfl | decide +kernel)
    (case fi_Book_add_dog => first | k_is | rfl | decide +kernel)
    (case lk_Book_add_dog => first | k_is | rfl | decide +kernel)
    (case cd_Book_add_dog' => first | k_is | rfl | decide +kernel)
    (case kp_Book_add_dog => first | k_is | rfl | decide +kernel)
    (case fm_Book_begin_show => first | k_is | rfl | decide +kernel)
    (case fi_Book_begin_show => first | k_is | rfl | decide +kernel)
    (case lk_Book_begin_show => first | k_is | rfl | decide +kernel)
    (case cd_Book_begin_show' => first | k_is | rfl | decide +kernel)
    (case kp_Book_begin_show => first | k_is | rfl | decide +kernel)
    (case fm_Book_enter => first | k_is | rfl | decide +kernel)
    (case fi_Book_enter => first | k_is | rfl | decide +kernel)
    (case lk_Book_enter => first | k_is | rfl | decide +kernel)
    (case cd_Book_enter' => first | k_is | rfl | decide +kernel)
    (case kp_Book_enter => first | k_is | rfl | decide +kernel)
    (case fm_Book_grade => first | k_is | rfl | decide +kernel)
    (case fi_Book_grade => first | k_is | rfl | decide +kernel)
    (case lk_Book_grade => first | k_is | rfl | decide +kernel)
    (case cd_Book_grade' => first | k_is | rfl | decide +kernel)
    (case kp_Book_grade => first | k_is | rfl | decide +kernel)
    (case fm_Book_row => first | k_is | rfl | decide +kernel)
    (case fi_Book_row => first | k_is | rfl | decide +kernel)
    (case lk_Book_row => first | k_is | rfl | decide +kernel)
    (case cd_Book_row' => first | k_is | rfl | decide +kernel)
    (case kp_Book_row => first | k_is | rfl | decide +kernel)
    (case fm_Book_award => first | k_is | rfl | decide +kernel)
    (case fi_Book_award => first | k_is | rfl | decide +kernel)
    (case lk_Book_award => first | k_is | rfl | decide +kernel)
    (case cd_Book_award' => first | k_is | rfl | decide +kernel)
    (case kp_Book_award => first | k_is | rfl | decide +kernel)
    (case fm_Book_close_show => first | k_is | rfl | decide +kernel)
    (case fi_Book_close_show => first | k_is | rfl | decide +kernel)
    (case lk_Book_close_show => first | k_is | rfl | decide +kernel)
    (case cd_Book_close_show' => first | k_is | rfl | decide +kernel)
    (case kp_Book_close_show => first | k_is | rfl | decide +kernel)
    (case fm_Book_may => first | k_is | rfl | decide +kernel)
    (case fi_Book_may => first | k_is | rfl | decide +kernel)
    (case lk_Book_may => first | k_is | rfl | decide +kernel)
    (case cd_Book_may' => first | k_is | rfl | decide +kernel)
    (case kp_Book_may => first | k_is | rfl | decide +kernel)
    (case fm_Book_titles => first | k_is | rfl | decide +kernel)
    (case fi_Book_titles => first | k_is | rfl | decide +kernel)
    (case lk_Book_titles => first | k_is | rfl | decide +kernel)
    (case cd_Book_titles' => first | k_is | rfl | decide +kernel)
    (case kp_Book_titles => first | k_is | rfl | decide +kernel)
    (case fm_Book_kept => first | k_is | rfl | decide +kernel)
    (case fi_Book_kept => first | k_is | rfl | decide +kernel)
    (case lk_Book_kept => first | k_is | rfl | decide +kernel)
    (case cd_Book_kept' => first | k_is | rfl | decide +kernel)
    (case kp_Book_kept => first | k_is | rfl | decide +kernel)
    (case fm_Book_now => first | k_is | rfl | decide +kernel)
    (case fi_Book_now => first | k_is | rfl | decide +kernel)
    (case lk_Book_now => first | k_is | rfl | decide +kernel)
    (case cd_Book_now' => first | k_is | rfl | decide +kernel)
    (case kp_Book_now => first | k_is | rfl | decide +kernel)
    (case ag_answer => first | k_is | rfl | decide +kernel)
    (case lk_answer => first | k_is | rfl | decide +kernel)
    (case cd_answer' => first | k_is | rfl | decide +kernel)
    (case kp_answer => first | k_is | rfl | decide +kernel)
    (case ag_read_call => first | k_is | rfl | decide +kernel)
    (case lk_read_call => first | k_is | rfl | decide +kernel)
    (case cd_read_call' => first | k_is | rfl | decide +kernel)
    (case kp_read_call => first | k_is | rfl | decide +kernel)
    (case ag_answers => first | k_is | rfl | decide +kernel)
    (case lk_answers => first | k_is | rfl | decide +kernel)
    (case cd_answers' => first | k_is | rfl | decide +kernel)
    (case kp_answers => first | k_is | rfl | decide +kernel)
    (case ac_CERTIFICATE => first | k_is | rfl | decide +kernel)
    (case ac_YOUNG => first | k_is | rfl | decide +kernel)
    (case ac_OLD => first | k_is | rfl | decide +kernel)
    (case ac_INTERNATIONAL => first | k_is | rfl | decide +kernel)
    (case ac_LONG => first | k_is | rfl | decide +kernel)
    (case ac_YOUNG_CLASS => first | k_is | rfl | decide +kernel)
    (case ac_WORKING => first | k_is | rfl | decide +kernel)
    (case ac_CHAMPIONS => first | k_is | rfl | decide +kernel)
    (case ac_OLD_CLASS => first | k_is | rfl | decide +kernel)
    (case ac_EXCELLENT => first | k_is | rfl | decide +kernel)
    (case ac_NEXT => first | k_is | rfl | decide +kernel)
    (case ac_NEXT_INTERNATIONAL => first | k_is | rfl | decide +kernel)
    (case ac_BEST => first | k_is | rfl | decide +kernel)
    (case ac_OTHER_BEST => first | k_is | rfl | decide +kernel)
    (case ac_MOST_DOGS => first | k_is | rfl | decide +kernel)
    (case ac_MOST_ROW => first | k_is | rfl | decide +kernel)
    (case at_GROWN => first | k_is | rfl | decide +kernel)
    (case lt_GROWN => first | k_is | rfl | decide +kernel)
    (case at_AGES => first | k_is | rfl | decide +kernel)
    (case lt_AGES => first | k_is | rfl | decide +kernel)
    (case lt_AGES_0 => first | k_is | rfl | decide +kernel)
    (case lt_AGES_1 => first | k_is | rfl | decide +kernel)
    (case lt_AGES_2 => first | k_is | rfl | decide +kernel)
    (case lt_AGES_3 => first | k_is | rfl | decide +kernel)
    (case lt_AGES_4 => first | k_is | rfl | decide +kernel)
    (case lt_AGES_5 => first | k_is | rfl | decide +kernel)
    (case lt_AGES_6 => first | k_is | rfl | decide +kernel)
    (case at_AWARDS => first | k_is | rfl | decide +kernel)
    (case lt_AWARDS => first | k_is | rfl | decide +kernel)
    (case at_FORMS => first | k_is | rfl | decide +kernel)
    (case lt_FORMS => first | k_is | rfl | decide +kernel)
    (case lt_FORMS_0 => first | k_is | rfl | decide +kernel)
    (case lt_FORMS_1 => first | k_is | rfl | decide +kernel)
    (case lt_FORMS_2 => first | k_is | rfl | decide +kernel)
    (case lt_FORMS_3 => first | k_is | rfl | decide +kernel)
    (case lt_FORMS_4 => first | k_is | rfl | decide +kernel)
    (case lt_FORMS_5 => first | k_is | rfl | decide +kernel)
    (case lt_FORMS_6 => first | k_is | rfl | decide +kernel)
    (case lt_FORMS_7 => first | k_is | rfl | decide +kernel)
    (case lt_FORMS_8 => first | k_is | rfl | decide +kernel)
    (case lt_FORMS_9 => first | k_is | rfl | decide +kernel)
    (case lt_FORMS_10 => first | k_is | rfl | decide +kernel)
    (case lt_FORMS_11 => first | k_is | rfl | decide +kernel)
    (case ab_len => first | k_is | rfl | decide +kernel)
    (case ab_max => first | k_is | rfl | decide +kernel)
    (case ab_min => first | k_is | rfl | decide +kernel)
    (case ab_set => first | k_is | rfl | decide +kernel)
    (case ab_any => first | k_is | rfl | decide +kernel)
    (case ab_all => first | k_is | rfl | decide +kernel)
    (case ab_ValueError => first | k_is | rfl | decide +kernel)
  case S =>
    intro K H xs a hO hwi hask hx
    cases hx with
    | cons h1 h2 =>
      cases h2
      cases h1 with
      | lst hs ha =>
        have e := L2.ints_dw a.1 _ ha
        subst e
        have q : ((Codec.inLen 0 6000 a.1 && a.1.all (Codec.inInt (-2147483648) 2147483647)) && true) = true := hwi
        rw [Bool.and_eq_true, Bool.and_eq_true] at q
        exact ⟨_, a.1, rfl, hs, (Codec.inNat_iff.mp q.1.1).2, hask, fun H' p hp => .lst (L2.SqL.of hp) (L2.dw_ints _)⟩
