import PyProof.Rows.All
import Wide.All
import OpenK.AllK
import Wide.FinOn
import HandS.ForMost
import HandS.ForExc
import HandS.ExcInit
import HandS.Flow
import HandS.Style
import HandS.Conv
import HandS.Deep
import HandS.SetKeys
import HandS.IsInst
import HandS.Defaults
import HandS.More
import HandS.Zip
import HandS.ClsMeth
import HandS.Wide
import KE.KDictKeyed
import KE.KDictDisplayH
import KE.SortData
import KE.GoesEnum
import HandS.TupLen
import HandS.DictComp
import HandS.TryOnly
import KE.Datum
import PySem.Challenge.RW_sleepmany_k83_whole_alike_closed
set_option linter.unusedSectionVars false
/-! The search by breadth, in plain Lean: a row that parts is a shortest one; a list that is told is closed; two searches that go alike tell alike. -/
namespace KM
section
variable {α σ : Type} [DecidableEq α]

/-- one more, if it is not there -/
def add (L : List α) (q : α) : List α := if q ∈ L then L else L ++ [q]
def addAll (L : List α) (qs : List α) : List α := qs.foldl add L
/-- behind n nodes gone through -/
def bfsN (sc : α → List α) (a : α) : Nat → List α
  | 0 => [a]
  | n + 1 => match (bfsN sc a n)[n]? with
    | some p => addAll (bfsN sc a n) (sc p)
    | none => bfsN sc a n

theorem add_mem {L : List α} {q x : α} : x ∈ add L q ↔ x ∈ L ∨ x = q := by
  unfold add
  by_cases h : q ∈ L
  · rw [if_pos h]
    constructor
    · exact Or.inl
    · rintro (z | rfl)
      · exact z
      · exact h
  · rw [if_neg h]; simp
theorem add_pre (L : List α) (q : α) : ∃ M, add L q = L ++ M := by
  unfold add
  by_cases h : q ∈ L
  · exact ⟨[], by rw [if_pos h]; simp⟩
  · exact ⟨[q], by rw [if_neg h]⟩
theorem add_nodup {L : List α} {q : α} (h : L.Nodup) : (add L q).Nodup := by
  unfold add
  by_cases c : q ∈ L
  · rw [if_pos c]; exact h
  · rw [if_neg c]
    refine List.nodup_append.mpr ⟨h, by simp, fun a ha b hb e => ?_⟩
    have : b = q := by simpa using hb
    subst this; subst e; exact c ha
theorem addAll_mem {qs : List α} : ∀ {L : List α} {x : α}, x ∈ addAll L qs ↔ x ∈ L ∨ x ∈ qs := by
  induction qs with
  | nil => intro L x; simp [addAll]
  | cons q qs ih =>
    intro L x
    show x ∈ addAll (add L q) qs ↔ _
    rw [ih, add_mem]; simp [or_assoc]
theorem addAll_pre : ∀ (qs L : List α), ∃ M, addAll L qs = L ++ M := by
  intro qs
  induction qs with
  | nil => intro L; exact ⟨[], by simp [addAll]⟩
  | cons q qs ih =>
    intro L
    obtain ⟨M, e⟩ := add_pre L q
    obtain ⟨M', e'⟩ := ih (add L q)
    exact ⟨M ++ M', by show addAll (add L q) qs = _; rw [e', e, List.append_assoc]⟩
theorem addAll_nodup : ∀ (qs : List α) {L : List α}, L.Nodup → (addAll L qs).Nodup := by
  intro qs
  induction qs with
  | nil => intro L h; exact h
  | cons q qs ih => intro L h; exact ih (add_nodup h)
theorem addAll_snoc (L qs : List α) (q : α) : addAll L (qs ++ [q]) = add (addAll L qs) q := by
  unfold addAll; rw [List.foldl_append]; rfl
theorem add_map {β : Type} [DecidableEq β] (f : α → β) (hf : ∀ x y, f x = f y → x = y) (L : List α) (q : α) : (add L q).map f = add (L.map f) (f q) := by
  unfold add
  by_cases h : q ∈ L
  · rw [if_pos h, if_pos (List.mem_map_of_mem h)]
  · rw [if_neg h, if_neg (fun z => by
      obtain ⟨x, hx, e⟩ := List.mem_map.mp z
      exact h (hf _ _ e ▸ hx)), List.map_append]; rfl
theorem addAll_map {β : Type} [DecidableEq β] (f : α → β) (hf : ∀ x y, f x = f y → x = y) : ∀ (qs L : List α), (addAll L qs).map f = addAll (L.map f) (qs.map f) := by
  intro qs
  induction qs with
  | nil => intro L; rfl
  | cons q qs ih =>
    intro L
    show (addAll (add L q) qs).map f = addAll (add (L.map f) (f q)) (qs.map f)
    rw [ih, add_map f hf]
theorem bfsN_map {β : Type} [DecidableEq β] (f : α → β) (hf : ∀ x y, f x = f y → x = y) (sc : α → List α) (tc : β → List β) (h : ∀ x, tc (f x) = (sc x).map f) (a : α) : ∀ n, bfsN tc (f a) n = (bfsN sc a n).map f
  | 0 => rfl
  | n + 1 => by
    have ih := bfsN_map f hf sc tc h a n
    show (match (bfsN tc (f a) n)[n]? with | some p => addAll (bfsN tc (f a) n) (tc p) | none => bfsN tc (f a) n) = _
    rw [ih, List.getElem?_map]
    show _ = (match (bfsN sc a n)[n]? with | some p => addAll (bfsN sc a n) (sc p) | none => bfsN sc a n).map f
    cases (bfsN sc a n)[n]? with
    | none => rfl
    | some p =>
      show addAll ((bfsN sc a n).map f) (tc (f p)) = (addAll (bfsN sc a n) (sc p)).map f
      rw [h, addAll_map f hf]
theorem bfsN_step (sc : α → List α) (a : α) {n : Nat} {p : α} (h : (bfsN sc a n)[n]? = some p) : bfsN sc a (n + 1) = addAll (bfsN sc a n) (sc p) := by
  show (match (bfsN sc a n)[n]? with | some p => addAll (bfsN sc a n) (sc p) | none => bfsN sc a n) = _
  rw [h]
theorem bfsN_stop (sc : α → List α) (a : α) {n : Nat} (h : (bfsN sc a n).length ≤ n) : ∀ k, n ≤ k → bfsN sc a k = bfsN sc a n := by
  intro k hk
  obtain ⟨d, rfl⟩ := Nat.le.dest hk
  clear hk
  induction d with
  | zero => rfl
  | succ d ih =>
    show (match (bfsN sc a (n + d))[n + d]? with | some p => addAll (bfsN sc a (n + d)) (sc p) | none => bfsN sc a (n + d)) = _
    rw [ih, List.getElem?_eq_none (by omega)]
/-- two ends are one -/
theorem bfsN_ends (sc : α → List α) (a : α) {n k : Nat} (hn : (bfsN sc a n).length = n) (hk : (bfsN sc a k).length = k) : bfsN sc a n = bfsN sc a k := by
  rcases Nat.le_total n k with h | h
  · exact (bfsN_stop sc a (Nat.le_of_eq hn) k h).symm
  · exact bfsN_stop sc a (Nat.le_of_eq hk) n h
theorem bfsN_nodup (sc : α → List α) (a : α) : ∀ n, (bfsN sc a n).Nodup
  | 0 => by simp [bfsN]
  | n + 1 => by
    have ih := bfsN_nodup sc a n
    show (match (bfsN sc a n)[n]? with | some p => addAll (bfsN sc a n) (sc p) | none => bfsN sc a n).Nodup
    cases (bfsN sc a n)[n]? with
    | none => exact ih
    | some p => exact addAll_nodup _ ih
theorem bfsN_pre (sc : α → List α) (a : α) (n : Nat) : ∀ k, n ≤ k → ∃ M, bfsN sc a k = bfsN sc a n ++ M := by
  intro k hk
  obtain ⟨d, rfl⟩ := Nat.le.dest hk
  clear hk
  induction d with
  | zero => exact ⟨[], by simp⟩
  | succ d ih =>
    obtain ⟨M, e⟩ := ih
    cases q : (bfsN sc a (n + d))[n + d]? with
    | none => exact ⟨M, by rw [← e]; show (match (bfsN sc a (n + d))[n + d]? with | some p => addAll (bfsN sc a (n + d)) (sc p) | none => bfsN sc a (n + d)) = _; rw [q]⟩
    | some p =>
      obtain ⟨M', e'⟩ := addAll_pre (sc p) (bfsN sc a (n + d))
      exact ⟨M ++ M', by rw [← Nat.add_assoc, bfsN_step sc a q, e', e, List.append_assoc]⟩
theorem bfsN_start (sc : α → List α) (a : α) (n : Nat) : a ∈ bfsN sc a n := by
  obtain ⟨M, e⟩ := bfsN_pre sc a 0 n (Nat.zero_le _)
  rw [e]; simp [bfsN]
/-- what is told at the end is closed -/
theorem bfsN_closed (sc : α → List α) (a : α) {n : Nat} (hn : n = (bfsN sc a n).length) {p q : α} (hp : p ∈ bfsN sc a n) (hq : q ∈ sc p) : q ∈ bfsN sc a n := by
  obtain ⟨i, hi, e⟩ := List.mem_iff_getElem.mp hp
  have hin : i < n := by omega
  obtain ⟨M, eM⟩ := bfsN_pre sc a i n (by omega)
  have key : ∀ k, k ≤ n → k ≤ (bfsN sc a k).length ∨ (bfsN sc a k).length < k := fun k _ => Nat.lt_or_ge _ _ |>.symm
  have hlen : i < (bfsN sc a i).length := by
    rcases Nat.lt_or_ge i (bfsN sc a i).length with h | h
    · exact h
    · have := bfsN_stop sc a h n (by omega)
      rw [this] at hn; omega
  have hp' : (bfsN sc a i)[i]? = some p := by
    have h2 : (bfsN sc a n)[i]? = some p := by rw [List.getElem?_eq_getElem hi, e]
    rw [eM, List.getElem?_append_left hlen] at h2
    exact h2
  obtain ⟨M', eM'⟩ := bfsN_pre sc a (i + 1) n (by omega)
  rw [eM', bfsN_step sc a hp']
  exact List.mem_append_left _ (addAll_mem.mpr (.inr hq))

/-! ### rows -/
/-- where a row leads, none where something else is told on the way -/
def run (nx : α → σ → Option α) : α → List σ → Option α
  | a, [] => some a
  | a, s :: r => match nx a s with
    | some b => run nx b r
    | none => none
theorem run_cons (nx : α → σ → Option α) (a : α) (s : σ) (r : List σ) : run nx a (s :: r) = (nx a s).bind fun b => run nx b r := by
  show (match nx a s with | some b => run nx b r | none => none) = _
  cases nx a s <;> rfl
theorem run_snoc (nx : α → σ → Option α) : ∀ (w : List σ) (a : α) (s : σ), run nx a (w ++ [s]) = (run nx a w).bind fun b => nx b s
  | [], a, s => by
    show (match nx a s with | some b => run nx b [] | none => none) = nx a s
    cases nx a s <;> rfl
  | t :: w, a, s => by
    show (match nx a t with | some b => run nx b (w ++ [s]) | none => none) = (match nx a t with | some b => run nx b w | none => none).bind _
    cases nx a t with
    | none => rfl
    | some b => exact run_snoc nx w b s

/-- a pair that is met: whence (the place of the pair, the place of the stroke), and the row that led to it -/
structure Ent (α σ : Type) where
  p : α
  par : Option (Nat × Nat)
  row : List σ
structure Good (nx : α → σ → Option α) (ss : List σ) (a : α) (es : List (Ent α σ)) : Prop where
  nd : (es.map (·.p)).Nodup
  zero : es[0]? = some ⟨a, none, []⟩
  par : ∀ (i : Nat) (e : Ent α σ), es[i]? = some e → (i = 0 ∧ e.par = none ∧ e.row = []) ∨ ∃ (k j : Nat) (f : Ent α σ) (s : σ), e.par = some (k, j) ∧ k < i ∧ es[k]? = some f ∧ ss[j]? = some s ∧ nx f.p s = some e.p ∧ e.row = f.row ++ [s]
  mono : ∀ (i i' : Nat) (e e' : Ent α σ), i ≤ i' → es[i]? = some e → es[i']? = some e' → e.row.length ≤ e'.row.length
/-- nodes below c are gone through, of the node c the first j strokes -/
structure Done (nx : α → σ → Option α) (ss : List σ) (es : List (Ent α σ)) (c j : Nat) : Prop where
  all : ∀ (i : Nat) (e : Ent α σ), i < c → es[i]? = some e → ∀ s ∈ ss, ∃ f, f ∈ es ∧ nx e.p s = some f.p ∧ f.row.length ≤ e.row.length + 1
  some_ : ∀ (e : Ent α σ), es[c]? = some e → ∀ s ∈ ss.take j, ∃ f, f ∈ es ∧ nx e.p s = some f.p ∧ f.row.length ≤ e.row.length + 1
  top : ∀ (e : Ent α σ), es[c]? = some e → ∀ f ∈ es, f.row.length ≤ e.row.length + 1

theorem Good.init (nx : α → σ → Option α) (ss : List σ) (a : α) : Good nx ss a [⟨a, none, []⟩] where
  nd := by simp
  zero := rfl
  par := fun i e h => by
    match i, h with
    | 0, h => cases Option.some.inj h; exact .inl ⟨rfl, rfl, rfl⟩
    | i + 1, h => simp at h
  mono := fun i i' e e' hi h h' => by
    match i, i', h, h' with
    | 0, 0, h, h' => cases Option.some.inj h; cases Option.some.inj h'; exact Nat.le_refl _
    | i + 1, _, h, _ => simp at h
    | 0, i' + 1, _, h' => simp at h'
theorem Done.init (nx : α → σ → Option α) (ss : List σ) (a : α) : Done nx ss [⟨a, none, []⟩] 0 0 where
  all := fun i e h => absurd h (Nat.not_lt_zero _)
  some_ := fun e _ s h => by simp at h
  top := fun e _ f hf => by
    have : f = ⟨a, none, []⟩ := by simpa using hf
    subst this; exact Nat.zero_le _
theorem take_snoc {l : List σ} {j : Nat} {s : σ} (h : l[j]? = some s) : l.take (j + 1) = l.take j ++ [s] := by
  rw [List.take_add_one, h]; rfl
theorem Good.run_ok {nx : α → σ → Option α} {ss : List σ} {a : α} {es : List (Ent α σ)} (G : Good nx ss a es) : ∀ (i : Nat) (e : Ent α σ), es[i]? = some e → run nx a e.row = some e.p ∧ ∀ s ∈ e.row, s ∈ ss := by
  intro i
  induction i using Nat.strongRecOn with
  | ind i ih =>
    intro e he
    rcases G.par i e he with ⟨rfl, _, hr⟩ | ⟨k, j, f, s, _, hk, hf, hs, hn, hr⟩
    · have := G.zero
      rw [he] at this
      cases Option.some.inj this
      exact ⟨rfl, fun s h => by cases h⟩
    · obtain ⟨h1, h2⟩ := ih k hk f hf
      rw [hr]
      refine ⟨by rw [run_snoc, h1]; exact hn, fun t ht => ?_⟩
      rcases List.mem_append.mp ht with z | z
      · exact h2 t z
      · have : t = s := by simpa using z
        subst this; exact List.mem_of_getElem? hs
section
variable {nx : α → σ → Option α} {ss : List σ} {a : α} {es : List (Ent α σ)} {c j : Nat} {e : Ent α σ} {s : σ} {q : α}
/-- met before -/
theorem Done.old (D : Done nx ss es c j) (G : Good nx ss a es) (he : es[c]? = some e) (hs : ss[j]? = some s) (hn : nx e.p s = some q) (hq : q ∈ es.map (·.p)) : Done nx ss es c (j + 1) where
  all := D.all
  some_ := fun e' he' t ht => by
    rw [take_snoc hs] at ht
    rcases List.mem_append.mp ht with z | z
    · exact D.some_ e' he' t z
    · have : t = s := by simpa using z
      subst this
      rw [he] at he'
      cases Option.some.inj he'
      obtain ⟨f, hf, e1⟩ := List.mem_map.mp hq
      subst e1
      exact ⟨f, hf, hn, D.top e he f hf⟩
  top := D.top
theorem get_snoc {β : Type} {l : List β} {x y : β} {i : Nat} (h : (l ++ [x])[i]? = some y) : l[i]? = some y ∨ (i = l.length ∧ y = x) := by
  by_cases hi : i < l.length
  · rw [List.getElem?_append_left hi] at h; exact .inl h
  · rw [List.getElem?_append_right (by omega)] at h
    have : i - l.length = 0 := by
      rcases Nat.eq_zero_or_pos (i - l.length) with z | z
      · exact z
      · rw [List.getElem?_eq_none (by simpa [Nat.succ_le_iff] using z)] at h; cases h
    rw [this] at h
    exact .inr ⟨by omega, (Option.some.inj h).symm⟩
theorem get_snoc_of {β : Type} {l : List β} {x y : β} {i : Nat} (h : l[i]? = some y) : (l ++ [x])[i]? = some y := by
  rw [List.getElem?_append_left (List.getElem?_eq_some_iff.mp h).1]; exact h
theorem lt_of_get {β : Type} {l : List β} {y : β} {i : Nat} (h : l[i]? = some y) : i < l.length := (List.getElem?_eq_some_iff.mp h).1
/-- met anew -/
theorem Good.new (G : Good nx ss a es) (D : Done nx ss es c j) (he : es[c]? = some e) (hs : ss[j]? = some s) (hn : nx e.p s = some q) (hq : q ∉ es.map (·.p)) :
    Good nx ss a (es ++ [⟨q, some (c, j), e.row ++ [s]⟩]) where
  nd := by
    rw [List.map_append]
    refine List.nodup_append.mpr ⟨G.nd, by simp, fun x hx y hy z => ?_⟩
    have : y = q := by simpa using hy
    subst this; subst z; exact hq hx
  zero := get_snoc_of G.zero
  par := fun i f hf => by
    rcases get_snoc hf with h | ⟨hi, rfl⟩
    · rcases G.par i f h with z | ⟨k, j', g, t, h1, h2, h3, h4⟩
      · exact .inl z
      · exact .inr ⟨k, j', g, t, h1, h2, get_snoc_of h3, h4⟩
    · exact .inr ⟨c, j, e, s, rfl, by rw [hi]; exact lt_of_get he, get_snoc_of he, hs, hn, rfl⟩
  mono := fun i i' f f' hi hf hf' => by
    rcases get_snoc hf with h | ⟨h1, h2⟩
    · rcases get_snoc hf' with h' | ⟨h1', rfl⟩
      · exact G.mono i i' f f' hi h h'
      · rw [List.length_append]
        exact D.top e he f (List.mem_of_getElem? h)
    · rcases get_snoc hf' with h' | ⟨h1', h2'⟩
      · have := lt_of_get h'; omega
      · rw [h2, h2']; exact Nat.le_refl _
theorem Done.new (D : Done nx ss es c j) (G : Good nx ss a es) (he : es[c]? = some e) (hs : ss[j]? = some s) (hn : nx e.p s = some q) :
    Done nx ss (es ++ [⟨q, some (c, j), e.row ++ [s]⟩]) c (j + 1) where
  all := fun i f hi hf t ht => by
    have hc := lt_of_get he
    rcases get_snoc hf with h | ⟨h1, h2⟩
    · obtain ⟨g, h1, h2⟩ := D.all i f hi h t ht
      exact ⟨g, List.mem_append_left _ h1, h2⟩
    · omega
  some_ := fun f hf t ht => by
    have hc := lt_of_get he
    rcases get_snoc hf with h | ⟨h1, h2⟩
    · rw [take_snoc hs] at ht
      rcases List.mem_append.mp ht with z | z
      · obtain ⟨g, h1, h2⟩ := D.some_ f h t z
        exact ⟨g, List.mem_append_left _ h1, h2⟩
      · have : t = s := by simpa using z
        subst this
        rw [he] at h
        cases Option.some.inj h
        exact ⟨_, List.mem_append_right _ (List.mem_singleton.mpr rfl), hn, by simp⟩
    · omega
  top := fun f hf g hg => by
    have hc := lt_of_get he
    rcases get_snoc hf with h | ⟨h1, h2⟩
    · rw [he] at h
      cases Option.some.inj h
      rcases List.mem_append.mp hg with z | z
      · exact D.top e he g z
      · have : g = _ := List.mem_singleton.mp z
        subst this; simp
    · omega
/-- the next node -/
theorem Done.next (D : Done nx ss es c ss.length) (G : Good nx ss a es) : Done nx ss es (c + 1) 0 where
  all := fun i f hi hf t ht => by
    rcases Nat.lt_or_ge i c with h | h
    · exact D.all i f h hf t ht
    · have : i = c := by omega
      subst this
      exact D.some_ f hf t (by rw [List.take_length]; exact ht)
  some_ := fun f _ t ht => by simp at ht
  top := fun f hf g hg => by
    have hc : c < es.length := Nat.lt_of_succ_lt (lt_of_get hf)
    obtain ⟨e, he⟩ : ∃ e, es[c]? = some e := ⟨es[c], List.getElem?_eq_getElem hc⟩
    exact Nat.le_trans (D.top e he g hg) (Nat.succ_le_succ (G.mono c (c + 1) e f (Nat.le_succ _) he hf))
/-- no row so long as the node's own parts -/
theorem short_runs (D : Done nx ss es c j) (G : Good nx ss a es) (he : es[c]? = some e) : ∀ (n : Nat) (w : List σ), w.length = n → n ≤ e.row.length → (∀ s ∈ w, s ∈ ss) → ∃ f, f ∈ es ∧ run nx a w = some f.p ∧ f.row.length ≤ n := by
  intro n
  induction n with
  | zero =>
    intro w hw _ _
    have : w = [] := List.length_eq_zero_iff.mp hw
    subst this
    exact ⟨_, List.mem_of_getElem? G.zero, rfl, Nat.le_refl _⟩
  | succ n ih =>
    intro w hw hle hss
    obtain ⟨v, t, rfl⟩ : ∃ v t, w = v ++ [t] := by
      have hne : w ≠ [] := by intro z; rw [z] at hw; cases hw
      exact ⟨w.dropLast, w.getLast hne, (List.dropLast_concat_getLast hne).symm⟩
    have hv : v.length = n := by rw [List.length_append] at hw; simpa using hw
    obtain ⟨f, hf, hr, hl⟩ := ih v hv (by omega) fun s hs => hss s (List.mem_append_left _ hs)
    obtain ⟨i, hi⟩ := List.getElem?_of_mem hf
    have hic : i < c := by
      rcases Nat.lt_or_ge i c with z | z
      · exact z
      · have := G.mono c i e f z he hi
        omega
    obtain ⟨g, hg, hn, hgl⟩ := D.all i f hic hi t (hss t (List.mem_append_right _ (List.mem_singleton.mpr rfl)))
    exact ⟨g, hg, by rw [run_snoc, hr]; exact hn, by omega⟩
/-- a prefix of a row that goes goes -/
theorem run_take : ∀ (w : List σ) (a : α) {b : α}, run nx a w = some b → ∀ k, ∃ c', run nx a (w.take k) = some c'
  | [], a, b, h, k => ⟨a, by simp [run]⟩
  | t :: w, a, b, h, 0 => ⟨a, rfl⟩
  | t :: w, a, b, h, k + 1 => by
    have h : (match nx a t with | some b' => run nx b' w | none => none) = some b := h
    cases q : nx a t with
    | none => rw [q] at h; cases h
    | some b' =>
      rw [q] at h
      obtain ⟨c', hc⟩ := run_take w b' h k
      exact ⟨c', by show (match nx a t with | some b'' => run nx b'' (w.take k) | none => none) = _; rw [q]; exact hc⟩
end
end
end KM

set_option Elab.async false
set_option linter.all false
set_option maxRecDepth 100000
set_option maxHeartbeats 1000000
/-! Data as they stand in the heap: Tp (tuples, numbers, texts: never changed), and what extends what. -/
namespace L2.KB
open PySem PySem.Spec PyProof.Rows

/-- all that was tracked is as it was, but at b -/
def But (b : Addr) (H H' : Hp) : Prop := ∀ a o, a ≠ b → H a = some o → H' a = some o
/-- all tuples are as they were -/
def TX (H H' : Hp) : Prop := ∀ a xs, H a = some (.tup xs) → H' a = some (.tup xs)
theorem TX.refl (H : Hp) : TX H H := fun _ _ h => h
theorem TX.trans {H H1 H2 : Hp} (a : TX H H1) (b : TX H1 H2) : TX H H2 := fun c xs h => b c xs (a c xs h)
theorem tx_same {H H' : Hp} (s : Same H H') : TX H H' := fun a xs h => s a _ h
theorem tx_but {H H' : Hp} {b : Addr} (s : But b H H') (n : ∀ xs, H b ≠ some (.tup xs)) : TX H H' := fun a xs h => s a _ (fun z => n xs (by rw [← z]; exact h)) h
theorem tx_upd {H : Hp} {b : Addr} {o : HO} (n : ∀ xs, H b ≠ some (.tup xs)) : TX H (upd H b o) := fun a xs h => by
  rw [upd_ne (fun z => n xs (by rw [← z]; exact h))]; exact h
theorem tx_updL {H : Hp} {b : Addr} {o : HO} {ys : List V} (h : H b = some (.lst ys)) : TX H (upd H b o) := tx_upd fun xs z => by rw [h] at z; cases z
theorem tx_new {H : Hp} {b : Addr} {o : HO} (h : H b = none) : TX H (upd H b o) := tx_upd fun xs z => by rw [h] at z; cases z
theorem same_new {H : Hp} {b : Addr} {o : HO} (h : H b = none) : Same H (upd H b o) := fun a u e => by rw [upd_ne (ne_of_none e h)]; exact e
theorem But.refl (b : Addr) (H : Hp) : But b H H := fun _ _ _ h => h
theorem But.trans {b : Addr} {H H1 H2 : Hp} (x : But b H H1) (y : But b H1 H2) : But b H H2 := fun c o n h => y c o n (x c o n h)
theorem but_same {b : Addr} {H H' : Hp} (s : Same H H') : But b H H' := fun a o _ h => s a o h
theorem but_upd {b : Addr} {H : Hp} {o : HO} : But b H (upd H b o) := fun a u n h => by rw [upd_ne n]; exact h
/-- changes at an address that H does not know -/
theorem same_but {b : Addr} {H H1 H2 : Hp} (s : Same H H1) (n : H b = none) (t : But b H1 H2) : Same H H2 := fun a o h => t a o (ne_of_none h n) (s a o h)

mutual
inductive Tp (H : Hp) : V → PyData → Prop
  | non : Tp H .non .none
  | bl (b : Bool) : Tp H (.bl b) (.bool b)
  | int (i : Int) : Tp H (.int i) (.int i)
  | str (x : Str) : Tp H (.str x) (.str x)
  | tup {a : Addr} {xs : List V} {ds : List PyData} : H a = some (.tup xs) → TpA H xs ds → Tp H (.ref a) (.tuple ds)
inductive TpA (H : Hp) : List V → List PyData → Prop
  | nil : TpA H [] []
  | cons {v : V} {vs : List V} {d : PyData} {ds : List PyData} : Tp H v d → TpA H vs ds → TpA H (v :: vs) (d :: ds)
end
mutual
theorem Tp.mono {H H' : Hp} (t : TX H H') : ∀ {v : V} {d : PyData}, Tp H v d → Tp H' v d
  | _, _, .non => .non
  | _, _, .bl b => .bl b
  | _, _, .int i => .int i
  | _, _, .str x => .str x
  | _, _, .tup h r => .tup (t _ _ h) (TpA.mono t r)
theorem TpA.mono {H H' : Hp} (t : TX H H') : ∀ {vs : List V} {ds : List PyData}, TpA H vs ds → TpA H' vs ds
  | _, _, .nil => .nil
  | _, _, .cons h r => .cons (Tp.mono t h) (TpA.mono t r)
end
mutual
theorem Tp.dp {K : PySem.W.Frag} {H : Hp} : ∀ {v : V} {d : PyData}, Tp H v d → Dp K H v d
  | _, _, .non => .non
  | _, _, .bl b => .bl b
  | _, _, .int i => .int i
  | _, _, .str x => .str x
  | _, _, .tup h r => .tup (SqT.of h) (TpA.dp r)
theorem TpA.dp {K : PySem.W.Frag} {H : Hp} : ∀ {vs : List V} {ds : List PyData}, TpA H vs ds → DpAll K H vs ds
  | _, _, .nil => .nil
  | _, _, .cons h r => .cons (Tp.dp h) (TpA.dp r)
end
theorem TpA.length {H : Hp} : ∀ {vs : List V} {ds : List PyData}, TpA H vs ds → vs.length = ds.length
  | _, _, .nil => rfl
  | _, _, .cons _ r => by simp [TpA.length r]
theorem TpA.get {H : Hp} : ∀ {vs : List V} {ds : List PyData}, TpA H vs ds → ∀ {i : Nat} {v : V}, vs[i]? = some v → ∃ d, ds[i]? = some d ∧ Tp H v d
  | _, _, .nil, _, _, e => by simp at e
  | _, _, .cons h r, 0, v, e => by
    have : _ = v := Option.some.inj e
    subst this; exact ⟨_, rfl, h⟩
  | _, _, .cons h r, i + 1, v, e => TpA.get r (i := i) e
theorem TpA.get' {H : Hp} : ∀ {vs : List V} {ds : List PyData}, TpA H vs ds → ∀ {i : Nat} {d : PyData}, ds[i]? = some d → ∃ v, vs[i]? = some v ∧ Tp H v d
  | _, _, .nil, _, _, e => by simp at e
  | _, _, .cons h r, 0, d, e => by
    have : _ = d := Option.some.inj e
    subst this; exact ⟨_, rfl, h⟩
  | _, _, .cons h r, i + 1, d, e => TpA.get' r (i := i) e
theorem TpA.append {H : Hp} : ∀ {vs ws : List V} {ds es : List PyData}, TpA H vs ds → TpA H ws es → TpA H (vs ++ ws) (ds ++ es)
  | _, _, _, _, .nil, s => s
  | _, _, _, _, .cons h r, s => .cons h (TpA.append r s)
theorem TpA.snoc {H : Hp} {vs : List V} {ds : List PyData} {v : V} {d : PyData} (h : TpA H vs ds) (x : Tp H v d) : TpA H (vs ++ [v]) (ds ++ [d]) := h.append (.cons x .nil)
theorem TpA.reverse {H : Hp} : ∀ {vs : List V} {ds : List PyData}, TpA H vs ds → TpA H vs.reverse ds.reverse
  | _, _, .nil => .nil
  | _, _, .cons h r => by rw [List.reverse_cons, List.reverse_cons]; exact TpA.snoc (TpA.reverse r) h
theorem TpA.strs {H : Hp} : ∀ xs : List Str, TpA H (xs.map V.str) (xs.map PyData.str)
  | [] => .nil
  | x :: xs => .cons (.str x) (TpA.strs xs)
theorem TpA.ints {H : Hp} : ∀ xs : List Int, TpA H (xs.map V.int) (xs.map PyData.int)
  | [] => .nil
  | x :: xs => .cons (.int x) (TpA.ints xs)

/-! ### the data of this program -/
abbrev St0 := List (Str × Int)
/-- a sleeper: name and rest -/
def dSl (p : Str × Int) : PyData := .tuple [.str p.1, .int p.2]
def dSt (s : St0) : PyData := .tuple (s.map dSl)
def dPr (p : St0 × St0) : PyData := .tuple [dSt p.1, dSt p.2]
/-- a sleeper, a standing, a pair at an address -/
def SlA (H : Hp) (a : Addr) (p : Str × Int) : Prop := H a = some (.tup [.str p.1, .int p.2])
theorem tp_sl {H : Hp} {v : V} {p : Str × Int} (h : Tp H v (dSl p)) : ∃ a, v = .ref a ∧ SlA H a p := by
  cases h with
  | tup h r =>
    refine ⟨_, rfl, ?_⟩
    cases r with
    | cons h1 r =>
      cases h1
      cases r with
      | cons h2 r =>
        cases h2
        cases r
        exact h
theorem tp_sl_of {H : Hp} {a : Addr} {p : Str × Int} (h : SlA H a p) : Tp H (.ref a) (dSl p) := .tup h (.cons (.str _) (.cons (.int _) .nil))
theorem tp_st {H : Hp} {v : V} {s : St0} (h : Tp H v (dSt s)) : ∃ a xs, v = .ref a ∧ H a = some (.tup xs) ∧ TpA H xs (s.map dSl) := by
  cases h with
  | tup h r => exact ⟨_, _, rfl, h, r⟩
theorem tp_pr {H : Hp} {v : V} {p : St0 × St0} (h : Tp H v (dPr p)) : ∃ a v1 v2, v = .ref a ∧ H a = some (.tup [v1, v2]) ∧ Tp H v1 (dSt p.1) ∧ Tp H v2 (dSt p.2) := by
  cases h with
  | tup h r =>
    cases r with
    | cons h1 r =>
      cases r with
      | cons h2 r =>
        cases r
        exact ⟨_, _, _, rfl, h, h1, h2⟩
theorem tp_pr_of {H : Hp} {a : Addr} {v1 v2 : V} {p : St0 × St0} (h : H a = some (.tup [v1, v2])) (h1 : Tp H v1 (dSt p.1)) (h2 : Tp H v2 (dSt p.2)) : Tp H (.ref a) (dPr p) := .tup h (.cons h1 (.cons h2 .nil))

/-! ### as keys of dicts -/
def kSl (p : Str × Int) : NestedKey := .tup [.text p.1, .num p.2]
def kSt (s : St0) : NestedKey := .tup (s.map kSl)
def kPr (p : St0 × St0) : NestedKey := .tup [kSt p.1, kSt p.2]
theorem datas_map {α : Type} (f : α → NestedKey) (g : α → PyData) (h : ∀ x, (f x).data = g x) : ∀ l : List α, NestedKey.datas (l.map f) = l.map g
  | [] => rfl
  | x :: l => by
    show (f x).data :: NestedKey.datas (l.map f) = g x :: l.map g
    rw [h, datas_map f g h l]
theorem data_sl (p : Str × Int) : (kSl p).data = dSl p := rfl
theorem data_st (s : St0) : (kSt s).data = dSt s := by
  show PyData.tuple (NestedKey.datas (s.map kSl)) = _
  rw [datas_map kSl dSl data_sl]; rfl
theorem data_pr (p : St0 × St0) : (kPr p).data = dPr p := by
  show PyData.tuple [(kSt p.1).data, (kSt p.2).data] = _
  rw [data_st, data_st]; rfl
theorem depthAll_le {k : Nat} : ∀ l : List NestedKey, (∀ x ∈ l, x.depth ≤ k) → NestedKey.depthAll l ≤ k
  | [], _ => Nat.zero_le _
  | x :: l, h => by
    show max x.depth (NestedKey.depthAll l) ≤ k
    exact Nat.max_le.mpr ⟨h x List.mem_cons_self, depthAll_le l fun y hy => h y (List.mem_cons_of_mem _ hy)⟩
theorem depth_sl (p : Str × Int) : (kSl p).depth ≤ 1 := by show NestedKey.depthAll _ + 1 ≤ 1; simp [NestedKey.depthAll, NestedKey.depth]
theorem depth_st (s : St0) : (kSt s).depth ≤ 2 := by
  show NestedKey.depthAll _ + 1 ≤ 2
  have := depthAll_le (k := 1) (s.map kSl) fun x hx => by
    obtain ⟨p, _, rfl⟩ := List.mem_map.mp hx
    exact depth_sl p
  omega
theorem depth_pr (p : St0 × St0) : (kPr p).depth ≤ 3 := by
  show NestedKey.depthAll _ + 1 ≤ 3
  have := depthAll_le (k := 2) [kSt p.1, kSt p.2] fun x hx => by
    simp at hx
    rcases hx with rfl | rfl <;> exact depth_st _
  omega
theorem kSl_inj {p q : Str × Int} (h : kSl p = kSl q) : p = q := by
  unfold kSl at h
  injection h with h
  injection h with h1 h
  injection h with h2 h
  injection h1 with h1
  injection h2 with h2
  exact Prod.ext h1 h2
theorem map_inj {α β : Type} {f : α → β} (hf : ∀ x y, f x = f y → x = y) : ∀ {l m : List α}, l.map f = m.map f → l = m
  | [], [], _ => rfl
  | [], _ :: _, h => by simp at h
  | _ :: _, [], h => by simp at h
  | x :: l, y :: m, h => by
    rw [List.map_cons, List.map_cons] at h
    injection h with h1 h2
    rw [hf _ _ h1, map_inj hf h2]
theorem kSt_inj {p q : St0} (h : kSt p = kSt q) : p = q := by
  unfold kSt at h
  injection h with h
  exact map_inj (fun _ _ => kSl_inj) h
theorem kPr_inj {p q : St0 × St0} (h : kPr p = kPr q) : p = q := by
  unfold kPr at h
  injection h with h
  injection h with h1 h
  injection h with h2 h
  exact Prod.ext (kSt_inj h1) (kSt_inj h2)

section
variable {X : Cx} {pins : List (Addr × Obj)} {σ : St} {H : Hp} {s : Shared}
mutual
theorem nk_is (I : Inv X pins σ H s) : ∀ (k : NestedKey) (v : V) (u : Value), Tp H v k.data → RelV v u → NestedIs s.heap k u
  | .none, _, _, h, r => by
    cases h; cases r; exact .none
  | .num i, _, _, h, r => by
    cases h
    obtain ⟨t, rfl⟩ := r
    exact .int i t
  | .text x, _, _, h, r => by
    cases h
    obtain ⟨t, rfl⟩ := r
    exact .text x t
  | .tup ks, _, _, h, r => by
    have h' : Tp H _ (.tuple (NestedKey.datas ks)) := h
    cases h' with
    | tup ha hr =>
      cases r
      obtain ⟨its, rv, ⟨o, e1, e2, n, e3⟩, _⟩ := I.tuple (SqT.of ha)
      exact .tup e1 e2 e3 (by simpa using nk_all I ks _ _ hr rv)
theorem nk_all (I : Inv X pins σ H s) : ∀ (ks : List NestedKey) (vs : List V) (us : List Value), TpA H vs (NestedKey.datas ks) → Vals vs us → NestedAll s.heap ks us
  | [], _, _, h, r => by
    have h' : TpA H _ [] := h
    cases h'; cases r; exact .nil
  | k :: ks, _, _, h, r => by
    have h' : TpA H _ (k.data :: NestedKey.datas ks) := h
    cases h' with
    | cons h1 h2 =>
      cases r with
      | cons r1 r2 => exact .cons (nk_is I k _ _ h1 r1) (nk_all I ks _ _ h2 r2)
end
end
end L2.KB

set_option Elab.async false
set_option linter.all false
set_option maxRecDepth 100000
set_option maxHeartbeats 1000000
/-! Dicts whose keys are nested tuples of texts and numbers. -/
namespace L2.KB
open PySem PySem.Spec PyProof.Rows

/-- an entry: the key, where its tuple stands, the value -/
abbrev NE := NestedKey × Addr × V
abbrev NX := NestedKey × Addr × Value
def kvE (es : List NE) : List (NestedKey × V) := es.map fun e => (e.1, e.2.2)
def NR (es : List NE) (xs : List NX) : Prop := Paired (fun (p : NE) (q : NX) => p.1 = q.1 ∧ p.2.1 = q.2.1 ∧ RelV p.2.2 q.2.2) es xs
def putE (es : List NE) (k : NestedKey) (a : Addr) (v : V) : List NE :=
  if (valV (kvE es) k).isSome = true then es.map (fun e => if e.1 = k then (e.1, e.2.1, v) else e) else es ++ [(k, a, v)]
/-- what stands at d -/
def dnO (P : Program) (w : World) (d : Addr) (es : List NE) : HO := .ext fun h => (d == sysModules) = false ∧ es.length ≤ sizeLine ∧ ∃ xs : List NX, NR es xs ∧
  ∃ o ds ep, h.get? d = some o ∧ o.ExactDict ∧ o.data = .dict ds ep ∧ ds.toList = xs.map (entryOfKey (nestedKind P w)) ∧ (xs.map (·.1)).Nodup
/-- the keys stand where the entries say -/
def KeysAt (H : Hp) (es : List NE) : Prop := ∀ e ∈ es, Tp H (.ref e.2.1) e.1.data ∧ e.1.depth ≤ 7
/-- a dict with these keys and values stands at d -/
def DN (P : Program) (w : World) (H : Hp) (d : Addr) (kvs : List (NestedKey × V)) : Prop := ∃ es : List NE, H d = some (dnO P w d es) ∧ kvE es = kvs ∧ KeysAt H es

theorem dnO_tup {P : Program} {w : World} {d : Addr} {es : List NE} {xs : List V} : dnO P w d es ≠ .tup xs := fun z => nomatch z
theorem KeysAt.mono {H H' : Hp} (t : TX H H') {es : List NE} (h : KeysAt H es) : KeysAt H' es := fun e he => ⟨(h e he).1.mono t, (h e he).2⟩
theorem DN.mono {P : Program} {w : World} {H H' : Hp} {d : Addr} {kvs : List (NestedKey × V)} (h : DN P w H d kvs) (hd : H' d = H d) (t : TX H H') : DN P w H' d kvs := by
  obtain ⟨es, h1, h2, h3⟩ := h
  exact ⟨es, hd.trans h1, h2, h3.mono t⟩
theorem DN.same {P : Program} {w : World} {H H' : Hp} {d : Addr} {kvs : List (NestedKey × V)} (h : DN P w H d kvs) (s : Same H H') : DN P w H' d kvs := by
  obtain ⟨es, h1, h2, h3⟩ := h
  exact ⟨es, s _ _ h1, h2, h3.mono (tx_same s)⟩
theorem DN.some {P : Program} {w : World} {H : Hp} {d : Addr} {kvs : List (NestedKey × V)} (h : DN P w H d kvs) : ∃ o, H d = some o ∧ (∀ xs, o ≠ .tup xs) ∧ (∀ xs, o ≠ .lst xs) := by
  obtain ⟨es, h1, h2, h3⟩ := h
  exact ⟨_, h1, fun xs z => (nomatch z), fun xs z => (nomatch z)⟩
theorem DN.ntup {P : Program} {w : World} {H : Hp} {d : Addr} {kvs : List (NestedKey × V)} (h : DN P w H d kvs) (xs : List V) : H d ≠ Option.some (.tup xs) := by
  obtain ⟨o, h1, h2, _⟩ := h.some
  rw [h1]; exact fun z => h2 xs (Option.some.inj z)
theorem kvE_length (es : List NE) : (kvE es).length = es.length := List.length_map _
theorem NR.length {es : List NE} {xs : List NX} (r : NR es xs) : es.length = xs.length := Paired.length r
theorem NR.mem {es : List NE} {xs : List NX} (r : NR es xs) : ∀ x ∈ xs, ∃ e ∈ es, e.1 = x.1 ∧ e.2.1 = x.2.1 := by
  unfold NR at r
  induction r with
  | nil => intro x hx; cases hx
  | cons h _ ih =>
    intro x hx
    rcases List.mem_cons.mp hx with rfl | hx
    · exact ⟨_, List.mem_cons_self, h.1, h.2.1⟩
    · obtain ⟨e, he, q⟩ := ih x hx
      exact ⟨e, List.mem_cons_of_mem _ he, q⟩
theorem NR.val {es : List NE} {xs : List NX} (r : NR es xs) (k : NestedKey) : RelO (valV (kvE es) k) ((atKey xs k).map (·.2)) := by
  unfold NR at r
  induction r with
  | nil => trivial
  | @cons p q ps qs h _ ih =>
    show RelO (valV ((p.1, p.2.2) :: kvE ps) k) _
    by_cases e : p.1 = k
    · rw [valV_pos (p := (p.1, p.2.2)) e]
      have : atKey (q :: qs) k = Option.some q.2 := by
        unfold atKey
        rw [List.find?_cons, decide_eq_true (h.1 ▸ e)]; rfl
      rw [this]
      exact h.2.2
    · rw [valV_neg (p := (p.1, p.2.2)) e]
      have : atKey (q :: qs) k = atKey qs k := by
        unfold atKey
        rw [List.find?_cons, decide_eq_false (h.1 ▸ e)]
      rw [this]
      exact ih
theorem NR.isSome {es : List NE} {xs : List NX} (r : NR es xs) (k : NestedKey) : (valV (kvE es) k).isSome = (atKey xs k).isSome := by
  have h := (r.val k).isSome_eq
  rw [h]; cases atKey xs k <;> rfl
theorem NR.put {es : List NE} {xs : List NX} (r : NR es xs) (k : NestedKey) (a : Addr) {v : V} {u : Value} (rv : RelV v u) : NR (putE es k a v) (storedH xs k a u) := by
  unfold putE storedH
  rw [r.isSome k]
  by_cases c : (atKey xs k).isSome = true
  · rw [if_pos c, if_pos c]
    clear c
    unfold NR at r ⊢
    induction r with
    | nil => exact .nil
    | @cons p q ps qs h _ ih =>
      refine .cons ?_ ih
      unfold putAt
      dsimp only
      by_cases e : p.1 = k
      · rw [if_pos e, if_pos (h.1 ▸ e)]
        exact ⟨h.1, h.2.1, rv⟩
      · rw [if_neg e, if_neg (h.1 ▸ e)]
        exact h
  · rw [if_neg c, if_neg c]
    clear c
    unfold NR at r ⊢
    induction r with
    | nil => exact .cons ⟨rfl, rfl, rv⟩ .nil
    | cons h _ ih => exact .cons h ih
theorem kvE_put (es : List NE) (k : NestedKey) (a : Addr) (v : V) : kvE (putE es k a v) = putK (kvE es) k v := by
  unfold putE
  cases e : valV (kvE es) k with
  | none =>
    rw [if_neg (by simp), putK_new v e]
    unfold kvE
    rw [List.map_append]; rfl
  | some u =>
    rw [if_pos (by rfl)]
    unfold putK
    rw [if_pos (by rw [valV_any, e]; rfl)]
    unfold kvE
    rw [List.map_map, List.map_map]
    refine List.map_congr_left fun x _ => ?_
    show (fun e : NE => (e.1, e.2.2)) (if x.1 = k then (x.1, x.2.1, v) else x) = if x.1 = k then (x.1, v) else (x.1, x.2.2)
    by_cases h : x.1 = k
    · rw [if_pos h, if_pos h]
    · rw [if_neg h, if_neg h]
theorem putE_length (es : List NE) (k : NestedKey) (a : Addr) (v : V) : (putE es k a v).length ≤ es.length + 1 := by
  have := length_putK (kvE es) k v
  rw [← kvE_put es k a v, kvE_length, kvE_length] at this
  exact this
theorem KeysAt.put {H H' : Hp} {es : List NE} (h : KeysAt H es) (t : TX H H') {k : NestedKey} {a : Addr} {v : V} (hk : Tp H (.ref a) k.data) (hd : k.depth ≤ 7) : KeysAt H' (putE es k a v) := by
  intro e he
  unfold putE at he
  by_cases c : (valV (kvE es) k).isSome = true
  · rw [if_pos c] at he
    obtain ⟨x, hx, q⟩ := List.mem_map.mp he
    by_cases z : x.1 = k
    · rw [if_pos z] at q
      subst q
      exact h.mono t x hx
    · rw [if_neg z] at q
      subst q
      exact h.mono t x hx
  · rw [if_neg c] at he
    rcases List.mem_append.mp he with z | z
    · exact h.mono t e z
    · have : e = (k, a, v) := List.mem_singleton.mp z
      subst this
      exact ⟨hk.mono t, hd⟩

section
variable {X : Cx} {pins : List (Addr × Obj)} {σ : St} {H : Hp} {s : Shared} {d a : Addr} {k : NestedKey} {kvs : List (NestedKey × V)} {v : V} {A : Around} {E : Value → Shared → Prop}
theorem key_is (I : Inv X pins σ H s) (h : Tp H (.ref a) k.data) (hd : k.depth ≤ 7) : (nestedKind X.prog X.w).is s.heap k a := ⟨nk_is I k (.ref a) (.ref a) h rfl, Nat.le_succ_of_le hd⟩
theorem dn_open {es : List NE} (I : Inv X pins σ H s) (h : H d = Option.some (dnO X.prog X.w d es)) (hk : KeysAt H es) :
    (d == sysModules) = false ∧ es.length ≤ sizeLine ∧ ∃ xs, NR es xs ∧ s.heap.DictOfH (nestedKind X.prog X.w) d xs := by
  obtain ⟨⟨h1, h2, xs, r, o, ds, ep, q1, q2, q3, q4, q5⟩, _, _⟩ := I.hok d _ h
  refine ⟨h1, h2, xs, r, o, ds, ep, q1, q2, q3, q4, fun x hx => ?_, q5⟩
  obtain ⟨e, he, e1, e2⟩ := r.mem x hx
  have := key_is I (hk e he).1 (hk e he).2
  rw [e1, e2] at this
  exact this
theorem dnO_ok {P : Program} {w : World} {H : Hp} {h : Heap} {es : List NE} {xs : List NX} (hd : (d == sysModules) = false) (hz : es.length ≤ sizeLine) (r : NR es xs) (m : h.DictOfH (nestedKind P w) d xs) : ObjOk P w H h d (dnO P w d es) := by
  obtain ⟨o, ds, ep, q1, q2, q3, q4, _, q5⟩ := m
  refine ⟨⟨hd, hz, xs, r, o, ds, ep, q1, q2, q3, q4, q5⟩, ⟨o, q1⟩, fun h1 h2 x k => ?_⟩
  obtain ⟨a1, a2, ys, a3, o', ds', ep', b1, b2⟩ := x
  exact ⟨a1, a2, ys, a3, o', ds', ep', k _ b1, b2⟩
theorem roomN (hu : A.units + 64 < cLine) : (nestedKind X.prog X.w).room A.in1 := by show A.units + 1 + 8 < cLine; omega

theorem dn_getItem {Q : Value → Shared → Prop} (hu : A.units + 64 < cLine) (I : Inv X pins σ H s) (D : DN X.prog X.w H d kvs) (hk : Tp H (.ref a) k.data) (hd : k.depth ≤ 7) (hv : valV kvs k = Option.some v)
    (h : ∀ w' s', Inv X pins σ H s' → RelV v w' → Q w' s') : wpAny (model X.prog X.w) A (getItem (.ref d) (.ref a)) Q E s := by
  obtain ⟨es, e1, rfl, ks⟩ := D
  obtain ⟨hs, _, xs, r, m⟩ := dn_open I e1 ks
  have rv := r.val k
  rw [hv] at rv
  obtain ⟨u, hu', ru⟩ := RelO.some_of rv
  obtain ⟨p, hp, rfl⟩ := Option.map_eq_some_iff.mp hu'
  exact wpAny_getItem_heap (roomN hu) (key_is I hk hd) m hp (h _ _ (I.tok _) ru)
theorem dn_in {Q : Value → Shared → Prop} (hu : A.units + 64 < cLine) (I : Inv X pins σ H s) (D : DN X.prog X.w H d kvs) (hk : Tp H (.ref a) k.data) (hd : k.depth ≤ 7)
    (h : ∀ s', Inv X pins σ H s' → Q (.bool (valV kvs k).isSome) s') : wpAny (model X.prog X.w) A (compareOp .In (.ref a) (.ref d)) Q E s := by
  obtain ⟨es, e1, rfl, ks⟩ := D
  obtain ⟨hs, _, xs, r, m⟩ := dn_open I e1 ks
  refine wpAny_in_heap (roomN hu) (key_is I hk hd) hs m ?_
  rw [← r.isSome k]
  exact h _ (I.tok _)
theorem dn_notIn {Q : Value → Shared → Prop} (hu : A.units + 64 < cLine) (I : Inv X pins σ H s) (D : DN X.prog X.w H d kvs) (hk : Tp H (.ref a) k.data) (hd : k.depth ≤ 7)
    (h : ∀ s', Inv X pins σ H s' → Q (.bool (!(valV kvs k).isSome)) s') : wpAny (model X.prog X.w) A (compareOp .NotIn (.ref a) (.ref d)) Q E s := by
  obtain ⟨es, e1, rfl, ks⟩ := D
  obtain ⟨hs, _, xs, r, m⟩ := dn_open I e1 ks
  refine notIn_keyed (knd := nestedKind X.prog X.w) (kvs := pairsH xs) (roomN hu) (key_is I hk hd) hs ⟨xs, m, rfl⟩ ?_
  rw [valueAt_pairsH, Option.isSome_map, ← r.isSome k]
  exact h _ (I.tok _)
/-- behind a store by the model's own rule for dicts of this kind -/
theorem dn_stored {es : List NE} {xs : List NX} {h' : Heap} {t' : Nat} {u : Value} (I : Inv X pins σ H s) (e1 : H d = Option.some (dnO X.prog X.w d es)) (ks : KeysAt H es) (hs : (d == sysModules) = false) (hl : es.length < sizeLine) (r : NR es xs)
    (hk : Tp H (.ref a) k.data) (hd : k.depth ≤ 7) (rv : RelV v u) (m : h'.DictOfH (nestedKind X.prog X.w) d (storedH xs k a u)) (sb : Heap.SameBut d s.heap h') :
    Inv X pins σ (upd H d (dnO X.prog X.w d (putE es k a v))) { s with heap := h', toks := t' } ∧ DN X.prog X.w (upd H d (dnO X.prog X.w d (putE es k a v))) d (putK (kvE es) k v) := by
  have nt : ∀ ys, H d ≠ Option.some (.tup ys) := fun ys z => by rw [e1] at z; exact dnO_tup (Option.some.inj z)
  have he : ∃ q, h'.get? d = Option.some q := let ⟨q, _, _, hq, _⟩ := m; ⟨q, hq⟩
  have hz : (putE es k a v).length ≤ sizeLine := by have := putE_length es k a v; omega
  refine ⟨I.write (x := d) (e := d) (by rw [e1]; exact True.intro) (.inl rfl) (fun b q hb z => (sb.2 b hb).trans z) he (dnO_ok hs hz (r.put k a rv) m), _, upd_same, kvE_put es k a v, ks.put (tx_upd nt) hk hd⟩
theorem dn_setItem {u : Value} {Q : Unit → Shared → Prop} (hu : A.units + 64 < cLine) (I : Inv X pins σ H s) (D : DN X.prog X.w H d kvs) (hl : kvs.length < sizeLine) (hk : Tp H (.ref a) k.data) (hd : k.depth ≤ 7) (rv : RelV v u)
    (h : ∀ o s', Inv X pins σ (upd H d o) s' → DN X.prog X.w (upd H d o) d (putK kvs k v) → Q () s') : wpAny (model X.prog X.w) A (setItem (.ref d) (.ref a) u) Q E s := by
  obtain ⟨es, e1, rfl, ks⟩ := D
  obtain ⟨hs, hz, xs, r, m⟩ := dn_open I e1 ks
  rw [kvE_length] at hl
  refine wpAny_setItem_heap (hsz := by rw [← r.length]; exact hz) (roomN hu) (key_is I hk hd) m fun h' m' sb => ?_
  obtain ⟨I', D'⟩ := dn_stored (t' := s.toks + (nestedKind X.prog X.w).draws k) I e1 ks hs hl r hk hd rv m' sb
  exact h _ _ I' D'
theorem dn_dictSet {u : Value} {Q : Unit → Shared → Prop} (hu : A.units + 64 < cLine) (I : Inv X pins σ H s) (D : DN X.prog X.w H d kvs) (hl : kvs.length < sizeLine) (hk : Tp H (.ref a) k.data) (hd : k.depth ≤ 7) (rv : RelV v u)
    (h : ∀ o s', Inv X pins σ (upd H d o) s' → DN X.prog X.w (upd H d o) d (putK kvs k v) → Q () s') : wpAny (model X.prog X.w) A (dictSet d (.ref a) u) Q E s := by
  obtain ⟨es, e1, rfl, ks⟩ := D
  obtain ⟨hs, hz, xs, r, m⟩ := dn_open I e1 ks
  rw [kvE_length] at hl
  refine wpAny_dictSet_heap (hsz := by rw [← r.length]; exact hz) (show (nestedKind X.prog X.w).room A by show A.units + 8 < cLine; omega) (key_is I hk hd) m fun h' m' sb => ?_
  obtain ⟨I', D'⟩ := dn_stored (t' := s.toks + (nestedKind X.prog X.w).draws k) I e1 ks hs hl r hk hd rv m' sb
  exact h _ _ I' D'
theorem dn_type (I : Inv X pins σ H s) (D : DN X.prog X.w H d kvs) : s.TypeIs (.ref d) "dict" := by
  obtain ⟨es, e1, rfl, ks⟩ := D
  obtain ⟨_, _, xs, _, m⟩ := dn_open I e1 ks
  exact m.typeIs
/-- a new empty one -/
theorem dn_new (I : Inv X pins σ H s) (t : Nat) : Inv X pins σ (upd H s.heap.objs.size (dnO X.prog X.w s.heap.objs.size [])) { s with heap := s.heap.push { cls := .type "dict", data := .dict #[] }, toks := t } ∧
    DN X.prog X.w (upd H s.heap.objs.size (dnO X.prog X.w s.heap.objs.size [])) s.heap.objs.size [] ∧ H s.heap.objs.size = none := by
  refine ⟨I.laid (fun b o e => Heap.get?_push_of_some _ e) (Nat.le_refl _) (dnO_ok (beq_eq_false_iff_ne.mpr (Ne.symm (Nat.ne_of_lt I.big))) (Nat.zero_le _) .nil (Heap.DictOfH.new s.heap)), ⟨[], upd_same, rfl, fun e he => by cases he⟩, I.hok.fresh (Nat.le_refl _)⟩
end

/-! ### rules -/
section
variable {X : Cx}
/-- k in d, k not in d -/
def rInN (P : Program) (w : World) (neg : Bool) : R2 := fun x y H Q => ∃ (a d : Addr) (k : NestedKey) (kvs : List (NestedKey × V)), x = .ref a ∧ y = .ref d ∧ DN P w H d kvs ∧ Tp H (.ref a) k.data ∧ k.depth ≤ 7 ∧
  Q (.bl (if neg = true then !(valV kvs k).isSome else (valV kvs k).isSome)) H
theorem op_inN (hu : X.A.units + 64 < cLine) : OpR X (compareOp .In) (rInN X.prog X.w false) := by
  intro pins s σ H x y v u Q I rx ry h
  obtain ⟨a, d, k, kvs, rfl, rfl, D, hk, hd, q⟩ := h
  cases rx
  cases ry
  exact dn_in hu I D hk hd fun s' J => ⟨.bl _, H, J, rfl, q⟩
theorem op_notInN (hu : X.A.units + 64 < cLine) : OpR X (compareOp .NotIn) (rInN X.prog X.w true) := by
  intro pins s σ H x y v u Q I rx ry h
  obtain ⟨a, d, k, kvs, rfl, rfl, D, hk, hd, q⟩ := h
  cases rx
  cases ry
  exact dn_notIn hu I D hk hd fun s' J => ⟨.bl _, H, J, rfl, q⟩
/-- d[k] -/
def rIxN (P : Program) (w : World) : R2 := fun x y H Q => ∃ (a d : Addr) (k : NestedKey) (kvs : List (NestedKey × V)) (v : V), x = .ref d ∧ y = .ref a ∧ DN P w H d kvs ∧ Tp H (.ref a) k.data ∧ k.depth ≤ 7 ∧ valV kvs k = Option.some v ∧ Q v H
theorem ix_N (hu : X.A.units + 64 < cLine) : IxR X (rIxN X.prog X.w) := by
  intro value slice pins s σ H x y v u Q I rx ry h hs
  obtain ⟨a, d, k, kvs, z, rfl, rfl, D, hk, hd, hv, q⟩ := h
  cases rx
  cases ry
  exact tail_any (dn_type I D) PySem.F.slot_dict_getitem.lookup (dn_getItem hu I D hk hd hv fun w' s' J r => ⟨z, H, J, r, q⟩) hs
/-- d[k] = v -/
def rSetN (P : Program) (w : World) : TSet := fun o i v H Q => ∃ (a d : Addr) (k : NestedKey) (kvs : List (NestedKey × V)), o = .ref d ∧ i = .ref a ∧ DN P w H d kvs ∧ kvs.length < sizeLine ∧ Tp H (.ref a) k.data ∧ k.depth ≤ 7 ∧
  ∀ o', DN P w (upd H d o') d (putK kvs k v) → Q (upd H d o')
theorem set_N (hu : X.A.units + 64 < cLine) : PSet X (rSetN X.prog X.w) := by
  intro pins s σ H o i v ov iv u Q I ro ri rv h
  obtain ⟨a, d, k, kvs, rfl, rfl, D, hl, hk, hd, q⟩ := h
  cases ro
  cases ri
  exact dn_setItem hu I D hl hk hd rv fun o' s' J D' => ⟨_, J, q o' D'⟩
/-- len(d) -/
def rLenN (P : Program) (w : World) : List V → Hp → VK → Prop := fun xs H Q => ∃ (d : Addr) (kvs : List (NestedKey × V)), xs = [.ref d] ∧ DN P w H d kvs ∧ Q (.int (kvs.length : Nat)) H
theorem call_lenN : CallR X (.builtin "len") (rLenN X.prog X.w) := by
  intro pins s σ H xs us Q I r h
  obtain ⟨d, kvs, rfl, D, q⟩ := h
  obtain ⟨u, rfl, ru⟩ := vals1 r
  cases ru
  obtain ⟨es, e1, rfl, ks⟩ := D
  obtain ⟨hs, hz, xs, r, m⟩ := dn_open I e1 ks
  have hl := r.length
  have h63 := line63
  refine call_len_dictH hs m (by omega) ?_
  rw [kvE_length, hl] at q
  exact ⟨.int xs.length, H, I.tok _, ⟨_, rfl⟩, q⟩
/-- {} -/
def tDNewN (P : Program) (w : World) : TE := fun _ H Q => ∀ p o, H p = none → DN P w (upd H p o) p [] → Q (.ref p) (upd H p o)
theorem pe_dnewN {pos : Pos} : PE X (.Dict [] [] pos) (tDNewN X.prog X.w) := ⟨fun pins s σ H Q I h => by
  obtain ⟨J, D, n⟩ := dn_new I s.toks
  exact wpAny_Dict_empty ⟨.ref s.heap.objs.size, _, J, rfl, h _ _ n D⟩⟩
end
end L2.KB

set_option Elab.async false
set_option linter.all false
set_option maxRecDepth 100000
set_option maxHeartbeats 1000000
/-! Such dicts written with one pair, made of a list of pairs, listed, walked, comprehended. -/
namespace L2.KB
open PySem PySem.Spec PyProof.Rows

section
variable {X : Cx}
/-- {k: v} -/
def tDisp1 (P : Program) (w : World) (tk tv : TE) : TE := fun σ H Q => ∀ p o, H p = none → DN P w (upd H p o) p [] → tk σ (upd H p o) fun x H1 => tv σ H1 fun y H2 => ∃ (a : Addr) (k : NestedKey), x = .ref a ∧ DN P w H2 p [] ∧ Tp H2 (.ref a) k.data ∧ k.depth ≤ 7 ∧
  ∀ o', DN P w (upd H2 p o') p [(k, y)] → Q (.ref p) (upd H2 p o')
theorem pe_disp1 {pos : Pos} {ke ve : Expr} {tk tv : TE} (hu : X.A.units + 64 < cLine) (hk : PE X ke tk) (hv : PE X ve tv) : PE X (.Dict [some ke] [ve] pos) (tDisp1 X.prog X.w tk tv) := by
  refine ⟨fun pins s σ H Q I q => ?_⟩
  obtain ⟨I1, D1, n1⟩ := dn_new I s.toks
  have P1 : PPs X pos [some ke] [ve] [(tk, tv)] := pps_cons hk hv pps_nil
  rw [arm_eval_Dict, show (evalEachOpt [some ke] X.env).zip ((evalEach [ve] X.env).map fun v => do let x ← v; standAt pos; pure x) = (pairTrees [some ke] [ve] X.env pos).map fun p => (some p.1, p.2) from rfl,
    dictDisplay_pairs _ (by simp [pairTrees]) (by simp [pairTrees])]
  refine wpAny_bind (wpAny_standAt (wpAny_bind (wpAny_subDictH (knd := nestedKind X.prog X.w) (show (nestedKind X.prog X.w).room X.A by show X.A.units + 8 < cLine; omega) (by simp [pairTrees]) ?_)))
  refine thn (P1.run pins _ σ _ (fun ps H2 => ∃ x y, ps = [(x, y)] ∧ ∃ (a : Addr) (k : NestedKey), x = .ref a ∧ DN X.prog X.w H2 s.heap.objs.size [] ∧ Tp H2 (.ref a) k.data ∧ k.depth ≤ 7 ∧
    ∀ o', DN X.prog X.w (upd H2 s.heap.objs.size o') s.heap.objs.size [(k, y)] → Q (.ref s.heap.objs.size) (upd H2 s.heap.objs.size o')) I1 ?_) fun vs s2 hh => ?_
  · have e := q s.heap.objs.size _ n1 D1
    exact (show tk σ _ fun x H1 => tv σ H1 fun y H2 => tPairs [] σ H2 fun ps H3 => _ from by
      refine cast ?_ e
      congr 1
      funext x H1
      congr 1
      funext y H2
      refine propext ⟨fun z => ⟨x, y, rfl, z⟩, fun ⟨x', y', e', z⟩ => ?_⟩
      cases e'
      exact z)
  · obtain ⟨ps, H2, I2, rel, x, y, rfl, a, k, rfl, D2, hk2, hd2, fin⟩ := hh
    cases rel with
    | cons r rr =>
      cases rr
      rename_i b
      obtain ⟨u1, u2⟩ := b
      obtain ⟨r1, r2⟩ := r
      obtain rfl : u1 = Value.ref a := r1
      obtain ⟨es, e1, ek, ks⟩ := D2
      have : es = [] := List.map_eq_nil_iff.mp ek
      subst this
      obtain ⟨hs, hz, xs, r, m⟩ := dn_open I2 e1 ks
      cases r
      refine ⟨[(k, a, u2)], ⟨rfl, rfl, key_is I2 hk2 hd2, trivial⟩, m, fun h' tk' hm' sb => wpAny_pure ?_⟩
      obtain ⟨J, D3⟩ := dn_stored (t' := tk') (v := y) I2 e1 ks hs (by rw [List.length_nil, sizeLine_eq]; decide) .nil hk2 hd2 r2 hm' sb
      exact ⟨.ref s.heap.objs.size, _, J, rfl, fin _ D3⟩

/-- list(d): the keys' tuples, in order -/
def rListN (P : Program) (w : World) : List V → Hp → VK → Prop := fun xs H Q => ∃ (d : Addr) (kvs : List (NestedKey × V)), xs = [.ref d] ∧ DN P w H d kvs ∧
  ∀ p bs, H p = none → TpA H bs (kvs.map fun kv => kv.1.data) → Q (.ref p) (upd H p (.lst bs))
theorem keys_tpa {H : Hp} : ∀ {es : List NE}, KeysAt H es → TpA H (es.map fun e => V.ref e.2.1) ((kvE es).map fun kv => kv.1.data)
  | [], _ => .nil
  | e :: es, h => .cons (h e List.mem_cons_self).1 (keys_tpa fun x hx => h x (List.mem_cons_of_mem _ hx))
theorem nr_keys {es : List NE} {xs : List NX} (r : NR es xs) : (xs.map fun x => x.2.1) = es.map fun e => e.2.1 := by
  unfold NR at r
  induction r with
  | nil => rfl
  | cons h _ ih => rw [List.map_cons, List.map_cons, ih, h.2.1]
theorem vals_refsN : ∀ bs : List Addr, Vals (bs.map V.ref) (bs.map Value.ref)
  | [] => .nil
  | _ :: r => .cons rfl (vals_refsN r)
theorem call_listN (hc : X.calm = true) : CallR X (.type "list") (rListN X.prog X.w) := by
  intro pins s σ H xs us Q I r h
  obtain ⟨d, kvs, rfl, D, q⟩ := h
  obtain ⟨u, rfl, rx⟩ := r.one
  cases rx
  obtain ⟨es, e1, rfl, ks⟩ := D
  obtain ⟨hs, hz, xs, nr, o, ds, ep, ho, hx, hdt, he, _, _⟩ := dn_open I e1 ks
  have l1 : ds.size = xs.length := size_of_entries he
  have l2 := nr.length
  refine PySem.W.kdl_call (kdl_raw hs hx hdt) (I.ok.hd hc) ho (by omega) fun h' tk acc c kp e it => ?_
  have ea : acc.toList = (es.map fun e => e.2.1).map Value.ref := by
    rw [← nr_keys nr, List.map_map]
    apply List.ext_getElem?
    intro j
    have hl : acc.toList.length = xs.length := by rw [Array.length_toList, it.1]; exact l1
    rw [List.getElem?_map]
    rcases Nat.lt_or_ge j xs.length with hj | hj
    · have hj2 : j < acc.toList.length := by omega
      obtain ⟨en, hen, hv⟩ := it.2 j acc.toList[j] (by rw [← Array.getElem?_toList]; exact List.getElem?_eq_getElem hj2)
      have qe := entry_at he j
      rw [hen, List.getElem?_eq_getElem hj] at qe
      have e2 : en = entryOfKey (nestedKind X.prog X.w) xs[j] := Option.some.inj qe
      rw [List.getElem?_eq_getElem hj2, List.getElem?_eq_getElem hj, hv, e2]
      rfl
    · rw [List.getElem?_eq_none (by omega), List.getElem?_eq_none (by omega)]
      rfl
  have rv : Vals ((es.map fun e => e.2.1).map V.ref) acc.toList := by rw [ea]; exact vals_refsN _
  have em : (es.map fun e => e.2.1).map V.ref = es.map fun e => V.ref e.2.1 := by rw [List.map_map]; rfl
  rw [em] at rv
  refine ⟨.ref s.heap.objs.size, _, I.laid (t' := tk) (o := .lst (es.map fun e => V.ref e.2.1)) kp (Nat.le_refl _) ⟨by rw [List.length_map]; exact hz, acc.toList, c, rv, by rw [Array.toArray_toList]; exact e⟩, rfl, q _ _ (I.hok.fresh (Nat.le_refl _)) (keys_tpa ks)⟩

/-! ### walked, under a lock -/
def ItN (P : Program) (w : World) (d : Addr) (od : Obj) (es : List NE) : It :=
  ⟨fun i H => H d = some (.frz od (dnO P w d es)) ∧ i < es.length, fun i H x H' => H' = H ∧ ∃ e, es[i]? = some e ∧ x = .ref e.2.1, fun i H => H d = some (.frz od (dnO P w d es)) ∧ es.length ≤ i⟩
theorem frzN {pins : List (Addr × Obj)} {σ : St} {H : Hp} {s : Shared} {d : Addr} {od : Obj} {es : List NE} (I : Inv X pins σ H s) (h : H d = some (.frz od (dnO X.prog X.w d es))) :
    (d == sysModules) = false ∧ s.heap.get? d = some od ∧ od.ExactDict ∧ ∃ (ds : Array DictEntry) (ep : Nat), od.data = .dict ds ep ∧ ds.size = es.length ∧ ∀ (i : Nat) (e : NE), es[i]? = some e → ∃ en : DictEntry, ds[i]? = some en ∧ en.key = .ref e.2.1 := by
  obtain ⟨hd, ⟨hs, hz, xs, nr, o, ds, ep, ho, hx, hdt, he, _⟩, _, _⟩ := I.hok d _ h
  rw [hd] at ho
  cases ho
  refine ⟨hs, hd, hx, ds, ep, hdt, by rw [size_of_entries he]; exact nr.length.symm, fun i e hi => ?_⟩
  have q := entry_at he i
  have hm : (xs.map fun x => x.2.1)[i]? = some e.2.1 := by rw [nr_keys nr, List.getElem?_map, hi]; rfl
  rw [List.getElem?_map] at hm
  cases hx' : xs[i]? with
  | none => rw [hx'] at hm; cases hm
  | some x =>
    rw [hx'] at hm q
    refine ⟨_, q, ?_⟩
    have : x.2.1 = e.2.1 := Option.some.inj hm
    show Value.ref x.2.1 = Value.ref e.2.1
    rw [this]
theorem turn_N {P : Program} {w : World} {K : PySem.W.Frag} {tg : Expr} {d : Addr} {od : Obj} {es : List NE} {ds : Array DictEntry} {ep : Nat} (it : Addr) (hod : od.data = .dict ds ep) : Turn P w K tg (ItN P w d od es) [it] it (fun i h => h.IsKeyIter it d i es.length ep) where
  mem := List.mem_singleton.mpr rfl
  obj := fun i h st b hb => by
    obtain rfl : b = it := List.mem_singleton.mp hb
    obtain ⟨oi, e, _, dd⟩ := st
    exact ⟨oi, e, fun v z => by rw [dd] at z; cases z⟩
  keep := fun i h h' st k => st.at fun oi e => k it (List.mem_singleton.mpr rfl) oi e
  item := by
    intro X hP hw hK hc i pins s σ H E I hf st ⟨hd, hi⟩
    subst hP hw hK
    obtain ⟨f0, f1, _, f3, f4, f5⟩ := hf it (List.mem_singleton.mpr rfl)
    obtain ⟨_, hgd, _, ds', ep', hdt, hsz, ent⟩ := frzN I hd
    rw [hod] at hdt
    cases hdt
    obtain ⟨en, hen, hkey⟩ := ent i es[i] (List.getElem?_eq_getElem hi)
    refine next_key_item st hgd hod hsz hen fun h' st' sb => ?_
    obtain ⟨oi, e, c, dd⟩ := id st'
    exact ⟨en.key, rfl, go_of (s := { s with heap := h' }) e c dd (by decide)
      ⟨.ref es[i].2.1, H, I.turned (t' := s.toks) (fun b ob hb z => (sb.2 b hb).trans z) f0 f1 f3 f4 f5, hkey, ⟨rfl, _, List.getElem?_eq_getElem hi, rfl⟩, st', fun b hb => (hf b hb).1⟩⟩
  done := by
    intro X hP hw hK hc i pins s σ H E I hf st ⟨hd, hi⟩
    subst hP hw hK
    obtain ⟨f0, f1, _, f3, f4, f5⟩ := hf it (List.mem_singleton.mpr rfl)
    obtain ⟨_, hgd, _, ds', ep', hdt, hsz, _⟩ := frzN I hd
    rw [hod] at hdt
    cases hdt
    exact next_key_end (I.ok.hd hc) st hgd hod hsz hi fun h' eb => ⟨rfl, I.turned (t' := s.toks) (fun b ob hb z => eb b ob hb z) f0 f1 f3 f4 f5⟩
  self := fun A i s Q E st h => by
    refine wpAny_pyIter_slot st.typeIs F.slot_dict_keyiterator_iter (wpAny_call_entry F.slot_dict_keyiterator_iter st.typeIs F.entry_dict_keyiterator_iter ?_ (F.args_dict_keyiterator_iter_1 _))
    exact (show wpAny _ _ (ret (.ref it)) _ _ s from wpAny_pure ⟨_, rfl, "dict_keyiterator", _, st.typeIs, F.slot_dict_keyiterator_next.lookup, h⟩)
def iKeysN (P : Program) (w : World) (td : TE) : TI := fun σ H R => td σ H fun x H1 => ∃ d od es, x = .ref d ∧ H1 d = some (.frz od (dnO P w d es)) ∧ R (ItN P w d od es) H1
theorem pi_keysN {tg e : Expr} {td : TE} (he : PE X e td) : PI X tg e (iKeysN X.prog X.w td) := by
  refine ⟨fun pins s σ H R I h => ?_⟩
  refine thn (he.run pins s σ H _ I h) fun u s1 ⟨x, H1, I1, rx, d, od, es, ex, hd, q⟩ => ?_
  subst ex
  obtain rfl : u = Value.ref d := rx
  obtain ⟨hs, hgd, hx, ds, ep, hdt, hsz, _⟩ := frzN I1 hd
  refine iter_keys hs hgd hx hdt (pi_one (tk := s1.toks) I1 _ (turn_N _ hdt) ⟨_, Heap.get?_push_size _ rfl, rfl, ?_⟩ q)
  rw [hsz] <;> rfl
end

/-! ### {k: v for ..} -/
section
variable {X : Cx}
def tDcN (P : Program) (w : World) (wi : TI) (g : TG) (tt : TT) (tk tv : TE) (vs : List Nat) : TE := fun σ H Q => wi σ H fun J H1 => ∀ D o, H1 D = none → DN P w (upd H1 D o) D [] → ∃ W : Nat → Nat → Hp → Prop, (∃ m, W 0 m (upd H1 D o)) ∧ ∀ i m H, W i m H →
  (J.stop i H ∧ Q (.ref D) H) ∨ (J.go i H ∧ ∃ Nx : Hp → Prop, (∀ H', Nx H' → ∃ m', m' < m ∧ W (i + 1) m' H') ∧ ∀ x H', J.yld i H x H' → g x (wipe σ vs) H' fun σ2 H2 => wipe σ2 vs = wipe σ vs ∧ tt σ2 H2 fun b H3 =>
    if b = true then tk σ2 H3 fun y H4 => tv σ2 H4 fun z H5 => ∃ (a : Addr) (k : NestedKey) (kvs : List (NestedKey × V)), y = .ref a ∧ DN P w H5 D kvs ∧ kvs.length < sizeLine ∧ Tp H5 (.ref a) k.data ∧ k.depth ≤ 7 ∧
      ∀ o', DN P w (upd H5 D o') D (putK kvs k z) → Nx (upd H5 D o') else Nx H3)
theorem dcN_core {pins : List (Addr × Obj)} {s : Shared} {σ : St} {H : Hp} {Q : VK} {kx vx tg iter : Expr} {ifs : List Expr} {scope : Scope} {own : List (Str × Nat)} {pos pos' : Pos} {wi : TI} {g : TG} {tt : TT} {tk tv : TE} {use : Option (Value → Sem Unit)} {Qf : Value → Shared → Prop}
    (hu : X.A.units + 64 < cLine) (hc : X.calm = true) (hN : X.N.Nodup) (I : Inv X pins σ H s) (hi : PI X tg iter wi) (ok : BlkOk X.N X.env.scope scope own)
    (hg : ∀ (s : Shared) (H : Hp) (C : Addr) (cl : List (Str × Addr)) (fp : List Addr), PG (X.blk s H scope (compEnvC scope cl C X.env) fp) tg g)
    (ht : ∀ (s : Shared) (H : Hp) (C : Addr) (cl : List (Str × Addr)) (fp : List Addr), PTs (X.blk s H scope (compEnvC scope cl C X.env) fp) ifs tt)
    (hk : ∀ (s : Shared) (H : Hp) (C : Addr) (cl : List (Str × Addr)) (fp : List Addr), PE (X.blk s H scope (compEnvC scope cl C X.env) fp) kx tk)
    (he : ∀ (s : Shared) (H : Hp) (C : Addr) (cl : List (Str × Addr)) (fp : List Addr), PE (X.blk s H scope (compEnvC scope cl C X.env) fp) vx tv) (hs : ∀ x, foldedSetIterable iter X.env x = pure x)
    (h : tDcN X.prog X.w wi g tt tk tv (own.map (·.2)) σ H Q)
    (hRR : ∀ D C s' m H', Inv X pins σ H' s' → Q (.ref D) H' → s'.heap.Ns C m → FpOk X pins H' C → compPost (model X.prog X.w) X.A X.xe use Qf (.ref D) C (.ok .next) s') :
    wpAny (model X.prog X.w) X.A (comprehension (.DictComp kx vx [⟨tg, iter, ifs, 0⟩] scope pos) scope X.env pos' newDict false (eval iter X.env) use) Qf X.xe s := by
  have hfree : ∀ y ∈ scope.names, y.2 = .free → ∃ c, X.env.cells.lookup y.1 = some c := fun y hy e => I.ok.has _ (ok.free y hy e)
  refine wpAny_comprehension_free (use := use) rfl hs (closure_ok hfree) ok.kind (fun y hy e => by rw [ok.uniq y hy, e]) (thn (hi.run pins s σ H _ I h) fun xv s1 hx => thn hx fun itv s2 h2 => ?_)
  obtain ⟨it, fp, tn, J, H2, rfl, I2, T, st2, f2, q⟩ := h2
  refine wpAny_newObj_type (newEnv_comp ?_)
  obtain ⟨I3, D3, nD⟩ := dn_new I2 s2.toks
  generalize hO : dnO X.prog X.w s2.heap.objs.size [] = o0 at I3 D3
  obtain ⟨W, ⟨m0, w0⟩, turn⟩ := q s2.heap.objs.size o0 nD D3
  generalize hD : s2.heap.objs.size = D at *
  generalize hs3 : ({ s2 with heap := s2.heap.push { cls := .type "dict", data := .dict #[] } } : Shared) = s3 at *
  have h3 : s3.heap = s2.heap.push { cls := .type "dict", data := .dict #[] } := by rw [← hs3]
  have f3 : ∀ b ∈ fp, FpOk X pins (upd H2 D o0) b ∧ b < s3.heap.objs.size := fun b hb => by
    obtain ⟨ob, e, _⟩ := T.obj _ _ st2 b hb
    have hlt := Heap.lt_size e
    refine ⟨⟨?_, (f2 b hb).2⟩, by rw [h3, Heap.size_push]; exact Nat.lt_succ_of_lt hlt⟩
    rw [upd_ne (by rw [← hD]; exact Nat.ne_of_lt hlt)]
    exact (f2 b hb).1
  have st3 : tn 0 s3.heap := T.keep _ _ _ st2 fun b _ ob e => by rw [h3]; exact Heap.get?_push_of_some _ e
  have I4 := block_start I3 ok hN f3
  generalize hcl : cellsFrom (s3.heap.objs.size + 1) scope.names (cloFrom X.env.cells scope.names []) = cl at *
  generalize hC : s3.heap.objs.size = C at *
  have pg := hg s3 (upd H2 D o0) C cl fp
  have pt := ht s3 (upd H2 D o0) C cl fp
  have pk := hk s3 (upd H2 D o0) C cl fp
  have pe := he s3 (upd H2 D o0) C cl fp
  have nfp : ∀ b ∈ fp, (upd H2 D o0) b = none := fun b hb => (f3 b hb).1.1
  change codeAny _ _ (.compStart (.DictComp kx vx [⟨tg, iter, ifs, 0⟩] scope pos) 0 (.ref it) (.ref D) (compEnvC scope cl C X.env)) (compPost (model X.prog X.w) X.A X.xe use Qf (.ref D) C) _
  generalize hce : compEnvC scope cl C X.env = ce at *
  have cL : ce.locals = C := by rw [← hce]; rfl
  generalize hH3 : upd H2 D o0 = H3 at *
  generalize hs4 : ({ s3 with heap := pushCells (s3.heap.push { cls := .type "dict", data := .dict #[] }) scope.names } : Shared) = s4 at *
  have st4 : tn 0 s4.heap := T.keep _ _ _ st3 fun b _ ob e => by rw [← hs4]; exact pushCells_keeps _ _ _ _ (Heap.get?_push_of_some _ e)
  have fpn : ∀ {σ' : St} {H' : Hp} {s' : Shared}, Inv (X.blk s3 H3 scope ce fp) [] σ' H' s' → (∀ b ∈ fp, H' b = none) → ∀ b ∈ fp, FpOk (X.blk s3 H3 scope ce fp) [] H' b := fun {σ' H' s'} I' hn b hb =>
    ⟨hn b hb, (I'.ok.exf b hb).1, I'.ok.exfs b hb, .inl hb, fun x c e => (I'.ok.exf b hb).2 x c e, fun p hp => absurd (show p ∈ ([] : List (Addr × Obj)) ++ [] from hp) (by simp)⟩
  have loop : codeAny (model X.prog X.w) X.A (.compLoop (.DictComp kx vx [⟨tg, iter, ifs, 0⟩] scope pos) 0 (.ref it) (.ref D) ce) (compPost (model X.prog X.w) X.A X.xe use Qf (.ref D) C) s4 := by
    refine compLoop_anyD (fun n s' => ∃ i H', Inv (X.blk s3 H3 scope ce fp) [] (wipe σ (own.map (·.2))) H' s' ∧ tn i s'.heap ∧ (∀ b ∈ fp, H' b = none) ∧ W i n H') ?_ m0 ⟨0, H3, I4, st4, nfp, w0⟩
    rintro n s5 ⟨i, H5, I5, st5, n5, w5⟩
    rcases turn i n H5 w5 with ⟨stop, fin⟩ | ⟨go, Nx, hNx, step⟩
    · refine thnF (T.done (X.blk s3 H3 scope ce fp) rfl rfl rfl hc i [] s5 _ H5 (fun _ _ => False) I5 (fpn I5 n5) st5 stop) fun r s6 ⟨hr, I6⟩ => ?_
      subst hr
      have I7 : Inv X pins σ H5 s6 := I3.call' (ch := fp) I6.os I6.base I6.hok I6.bare fun b hb => ⟨(f3 b hb).1.2.2.2.1, (f3 b hb).1.2.1, (f3 b hb).1.2.2.2.2.1, (f3 b hb).1.2.2.2.2.2⟩
      have nC : H5 C = none := by rw [← cL]; exact I6.free
      obtain ⟨m, hn, _⟩ := I6.loc
      have hn' : s6.heap.Ns C m := by rw [← cL]; exact hn
      exact hRR D C s6 m H5 I7 fin hn' (I3.fpOk (Nat.le_of_eq hC) nC)
    · refine thnF (T.item (X.blk s3 H3 scope ce fp) rfl rfl rfl hc i [] s5 _ H5 (fun _ _ => False) I5 (fpn I5 n5) st5 go) fun r s6 ⟨u, hr, h6⟩ => ?_
      subst hr
      refine thnF h6 fun _ s7 ⟨x, H7, I7, r7, y7, st7, n7⟩ => ?_
      refine thnF (pg.run _ s7 _ H7 x u _ (I7.pinned (fpn I7 n7) (T.obj _ _ st7)) r7 (step x H7 y7)) fun _ s8 ⟨σ8, H8, I8, hw8, q8⟩ => ?_
      refine thnF (pt.run _ s8 σ8 H8 _ I8 q8) fun b s9 ⟨H9, I9, q9⟩ => ?_
      have back : ∀ {s' : Shared} {H' : Hp}, Inv (X.blk s3 H3 scope ce fp) ([] ++ pinsAt fp s7.heap) σ8 H' s' → Nx H' → ∃ m, m < n ∧ ∃ i H', Inv (X.blk s3 H3 scope ce fp) [] (wipe σ (own.map (·.2))) H' s' ∧ tn i s'.heap ∧ (∀ b ∈ fp, H' b = none) ∧ W i m H' := fun {s' H'} I' nx => by
        obtain ⟨m', hm, w'⟩ := hNx H' nx
        have at7 : ∀ b ∈ fp, ∀ ob, s7.heap.get? b = some ob → s'.heap.get? b = some ob ∧ H' b = none := fun b hb ob e =>
          let z := I'.pin (b, ob) (List.mem_append_right _ (List.mem_append_right _ (mem_pinsAt hb e)))
          ⟨z.1, z.2.1⟩
        refine ⟨m', hm, i + 1, H', (I'.unpinned (pins := [])).weak (by rw [← hw8, wipe_length]) (fun j v e => ?_), T.keep _ _ _ st7 fun b hb ob e => (at7 b hb ob e).1, fun b hb => ?_, w'⟩
        · rw [← hw8] at e
          exact (wipe_some e).1
        · obtain ⟨ob, e, _⟩ := T.obj _ _ st7 b hb
          exact (at7 b hb ob e).2
      cases b with
      | false =>
        simp only [Bool.false_eq_true, if_false] at q9 ⊢
        exact back I9 q9
      | true =>
        simp only [if_true] at q9 ⊢
        refine thnF (pk.run _ s9 σ8 H9 _ I9 q9) fun z s10 ⟨yk, H10, I10, r10, q10⟩ => ?_
        refine thnF (pe.run _ s10 σ8 H10 _ I10 q10) fun z2 s11 ⟨yv, H11, I11, r11, a, k, kvs, ek, D11, hl, hk11, hd11, nx⟩ => ?_
        subst ek
        obtain rfl : z = Value.ref a := r10
        exact dn_dictSet (X := X.blk s3 H3 scope ce fp) hu I11 D11 hl hk11 hd11 r11 fun o' s12 I12 D12 => back I12 (nx o' D12)
  exact codeAny_compStart_dict loop (T.self X.A 0 _ _ _ st4 loop)
theorem pe_dcN {kx vx tg iter : Expr} {ifs : List Expr} {scope : Scope} {own : List (Str × Nat)} {pos : Pos} {wi : TI} {g : TG} {tt : TT} {tk tv : TE} (hu : X.A.units + 64 < cLine) (hc : X.calm = true) (hN : X.N.Nodup) (hi : PI X tg iter wi) (ok : BlkOk X.N X.env.scope scope own)
    (hg : ∀ (s : Shared) (H : Hp) (C : Addr) (cl : List (Str × Addr)) (fp : List Addr), PG (X.blk s H scope (compEnvC scope cl C X.env) fp) tg g)
    (ht : ∀ (s : Shared) (H : Hp) (C : Addr) (cl : List (Str × Addr)) (fp : List Addr), PTs (X.blk s H scope (compEnvC scope cl C X.env) fp) ifs tt)
    (hk : ∀ (s : Shared) (H : Hp) (C : Addr) (cl : List (Str × Addr)) (fp : List Addr), PE (X.blk s H scope (compEnvC scope cl C X.env) fp) kx tk)
    (he : ∀ (s : Shared) (H : Hp) (C : Addr) (cl : List (Str × Addr)) (fp : List Addr), PE (X.blk s H scope (compEnvC scope cl C X.env) fp) vx tv) (hs : ∀ x, foldedSetIterable iter X.env x = pure x := by intro _; rfl) :
    PE X (.DictComp kx vx [⟨tg, iter, ifs, 0⟩] scope pos) (tDcN X.prog X.w wi g tt tk tv (own.map (·.2))) := by
  refine ⟨fun pins s σ H Q I h => ?_⟩
  rw [arm_eval_DictComp]
  refine dcN_core hu hc hN I hi ok hg ht hk he hs h fun D C s' m H' I' q hn f => ⟨m, hn, fun h'' sb => ?_⟩
  obtain ⟨f0, f1, f2, f3, f4, f5⟩ := f
  exact ⟨.ref D, H', I'.turned (t' := s'.toks) (fun b o hb e => (sb.2 b hb).trans e) f0 f1 f3 f4 f5, rfl, q⟩
/-- name = {k: v for ..} on one line, the name a local -/
theorem ps_setDcN {i : Nat} {y : Str} {py : Pos} {kx vx tg iter : Expr} {ifs : List Expr} {scope : Scope} {own : List (Str × Nat)} {pos spos : Pos} {wi : TI} {g : TG} {tt : TT} {tk tv : TE} (hu : X.A.units + 64 < cLine) (hc : X.calm = true) (hN : X.N.Nodup)
    (hy : X.N[i]? = some y) (hyl : X.env.scope.names.lookup y = some .local)
    (hsw : swapsWith (.DictComp kx vx [⟨tg, iter, ifs, 0⟩] scope pos) (some (.Name y py)) spos.line X.env = pure true) (hi : PI X tg iter wi) (ok : BlkOk X.N X.env.scope scope own)
    (hg : ∀ (s : Shared) (H : Hp) (C : Addr) (cl : List (Str × Addr)) (fp : List Addr), PG (X.blk s H scope (compEnvC scope cl C X.env) fp) tg g)
    (ht : ∀ (s : Shared) (H : Hp) (C : Addr) (cl : List (Str × Addr)) (fp : List Addr), PTs (X.blk s H scope (compEnvC scope cl C X.env) fp) ifs tt)
    (hk : ∀ (s : Shared) (H : Hp) (C : Addr) (cl : List (Str × Addr)) (fp : List Addr), PE (X.blk s H scope (compEnvC scope cl C X.env) fp) kx tk)
    (he : ∀ (s : Shared) (H : Hp) (C : Addr) (cl : List (Str × Addr)) (fp : List Addr), PE (X.blk s H scope (compEnvC scope cl C X.env) fp) vx tv) (hs : ∀ x, foldedSetIterable iter X.env x = pure x := by intro _; rfl) :
    PS X (.Assign [.Name y py] (.DictComp kx vx [⟨tg, iter, ifs, 0⟩] scope pos) spos) (tAsg (tDcN X.prog X.w wi g tt tk tv (own.map (·.2))) (gName i)) := by
  refine ⟨fun pins s σ H D I h => ?_⟩
  rw [exec_Assign_Name_used _ _ _ _ hsw]
  refine wpAny_bind (wpAny_standAt (wpAny_bind ?_))
  show wpAny _ X.A (do let _ ← comprehension (.DictComp kx vx [⟨tg, iter, ifs, 0⟩] scope pos) scope X.env (firstIterPos [⟨tg, iter, ifs, 0⟩] pos) newDict false (eval iter X.env) (some (assign (.Name y py) X.env))) _ _ s
  have h : tDcN X.prog X.w wi g tt tk tv (own.map (·.2)) σ H (fun x H1 => gName i x σ H1 D.nx) := h
  refine wpAny_bind (thn (dcN_core (Qf := fun _ s' => SP X pins D .next s') hu hc hN I hi ok hg ht hk he hs h fun L C s' m H' I' q hn f => ?_) fun _ s' hq => wpAny_pure (wpAny_pure hq))
  show wpAny _ _ (assign (.Name y py) X.env (.ref L)) _ _ _
  refine wpAny_assign_Name (store_ok2 (v := V.ref L) I' hN hy (.inl hyl) rfl (fun s2 I2 ⟨a, sb, ha⟩ => ?_) (.inr hyl))
  obtain ⟨f0, f1, f2, f3, f4, f5⟩ := f
  have haC : C ≠ a := by
    rcases ha with z | z
    · rw [z]; exact f1
    · exact fun e => f4 y a z e.symm
  refine ⟨m, hn.sameBut sb haC, fun h3 sb3 => ?_⟩
  exact ⟨_, H', I2.turned (t' := s2.toks) (fun b o hb e => (sb3.2 b hb).trans e) f0 f1 f3 f4 f5, q⟩
theorem sw_trueD {kx vx : Expr} {gs : List Comprehension} {scope : Scope} {pos py : Pos} {y : Str} {l : Nat} {env : Env} (hk : env.scope.kind = .function) (hy : env.scope.names.lookup y = some .local) (hl : (py.line == pos.line) = true)
    (ha : (scope.names.any fun (n, k) => n == y && (k == .local || k == .cell)) = false) : swapsWith (.DictComp kx vx gs scope pos) (some (.Name y py)) l env = pure true := by
  have ky : env.kindOf y = some .local := hy
  have hb : env.blockKind = .function := by unfold Env.blockKind; rw [hk]; rfl
  unfold swapsWith
  simp only [hb, ky, ha, Expr.pos, hl]
  rfl
end
end L2.KB

set_option Elab.async false
set_option linter.all false
set_option maxRecDepth 100000
set_option maxHeartbeats 1000000
/-! Further rules: enumerate(a tuple), dict(zip(..)), dict(pairs) with nested keys, text * number, sorted(pairs of a text and a number), an error's base class's own __init__ called by name. -/
namespace L2.KB
open PySem PySem.Spec PyProof.Rows

/-! ### text * number -/
section
variable {X : Cx}
/-- a text times 0, 1, .. 10 -/
def rMulS : R2 := fun x y H Q => ∃ (z : Str) (n : Int), x = .str z ∧ y = .int n ∧ 0 ≤ n ∧ n ≤ 10 ∧ z.length ≤ 100 ∧ ∀ z' : Str, z'.length ≤ 1000 → Q (.str z') H
theorem foldl_size : ∀ (n : Nat) (c acc : Array Nat), ((List.replicate n c).foldl (· ++ ·) acc).size = acc.size + n * c.size
  | 0, c, acc => by simp
  | n + 1, c, acc => by
    rw [List.replicate_succ, List.foldl_cons, foldl_size n c (acc ++ c), Array.size_append, Nat.succ_mul]; omega
theorem op_mulS : OpR X (binaryOp .Mult) rMulS := by
  intro pins s σ H x y v u Q I rx ry h
  obtain ⟨z, n, rfl, rfl, h0, h1, hz, q⟩ := h
  obtain ⟨t, rfl⟩ := rx
  obtain ⟨t', rfl⟩ := ry
  have e1 : decide (n < -(2 ^ 63 : Int)) = false := decide_eq_false (by omega)
  have e2 : decide (n ≥ 2 ^ 63) = false := decide_eq_false (by omega)
  refine PySem.P.mul_str (by rw [e1, e2]; rfl) (fun hn _ hb => ?_) (fun hn _ => ?_) ?_
  · have hp : 0 < n := by omega
    have := Int.mul_le_of_le_ediv hp (Int.le_of_lt_add_one (by omega : ((2 ^ 63 - 1) / n : Int) < (2 ^ 63 - 1) / n + 1))
    have h3 : ((2 ^ 63 - 1) / n : Int) < 100 := by omega
    have h4 : (2 ^ 63 - 1 : Int) < 100 * n := by
      have := Int.lt_mul_of_ediv_lt hp h3
      exact this
    omega
  · have : z.length * n.toNat ≤ 1000 := Nat.mul_le_mul (by omega : z.length ≤ 100) (by omega : n.toNat ≤ 10)
    unfold Builtin.Str.tooLong
    simp only [decide_eq_false_iff_not]; rw [sizeLine_eq]; omega
  · by_cases c : n < 1
    · rw [if_pos c]
      exact ⟨by decide, .str Str.empty, H, I.tok _, ⟨_, rfl⟩, q _ (by decide)⟩
    · rw [if_neg c]
      by_cases c2 : (n == 1 || z.length == 0) = true
      · rw [if_pos c2]
        exact ⟨.str z, H, I, ⟨_, rfl⟩, q _ (by omega)⟩
      · rw [if_neg c2]
        have hs : (List.foldl (fun x1 x2 => x1 ++ x2) #[] (List.replicate n.toNat z.cps)).size ≤ 1000 := by
          rw [foldl_size]
          have : n.toNat * z.cps.size ≤ 10 * 100 := Nat.mul_le_mul (by omega) hz
          simp; omega
        exact ⟨Nat.le_trans hs (by rw [sizeLine_eq]; decide), .str _, H, I.tok _, ⟨_, rfl⟩, q _ hs⟩
end

/-! ### enumerate(a tuple) -/
set_option maxHeartbeats 4000000 in
theorem meets_enum1 {v : Value} {o : Obj} {H : Heap → Prop} (B : Begins v o H) :
    Meets (Builtin.«enumerate.__new__» ⟨[.type "enumerate", v], []⟩) (fun _ R s => H s.heap ∧
      R (.ok (.ret (.ref (s.heap.push o).objs.size))) { s with heap := (s.heap.push o).push { cls := .type "enumerate", data := .fields #[.none, .bool false, .ref s.heap.objs.size, rawInt 0, .none, .none] } }) :=
  .of_wp fun prog w A R s h => by
    obtain ⟨hp, g, d, tk, os⟩ := s
    obtain ⟨h1, h⟩ := h
    have hsub := sub_enumerate
    have it : ∀ {A' : Around} {E : Value → Shared → Prop} {Q : Value → Shared → Prop}, Q (.ref hp.objs.size) ⟨hp.push o, g, d, tk, os⟩ → wpAny (model prog w) A' (pyIter v) Q E ⟨hp, g, d, tk, os⟩ :=
      fun q => B.iter prog w _ _ ⟨hp, g, d, tk, os⟩ _ h1 q
    wp_walk using it
    refine wpAny_stack_any fun st => wpAny_pure ?_
    split
    · rename_i c _ _ _ _ _
      cases (c == Value.type "enumerate") <;> (wp_walk using it; exact ⟨_, rfl, h⟩)
    · wp_walk using it
      exact ⟨_, rfl, h⟩
theorem call_enum1 {prog : Program} {w : World} {A : Around} {E : Value → Shared → Prop} {s : Shared} {v : Value} {o : Obj} {H : Heap → Prop} {Q : Value → Shared → Prop} (B : Begins v o H) (h1 : H s.heap)
    (h : ∀ h', IsEnum h' (s.heap.objs.size + 1) s.heap.objs.size 0 .none → h'.get? s.heap.objs.size = some o → h'.objs.size = s.heap.objs.size + 2 →
      (∀ b ob, s.heap.get? b = some ob → h'.get? b = some ob) → Q (.ref (s.heap.objs.size + 1)) { s with heap := h' }) :
    wpAny (model prog w) A (call (.type "enumerate") [v]) Q E s := by
  refine callType_new F.called_enumerate (by decide) (F.typeCall_enumerate_1 _) (F.newCall_enumerate_1 _) (fun obj => F.args_object_init_2 obj _) F.entry_enumerate_new (meets_enum1 B) ⟨h1, ?_⟩
  have hz : (s.heap.push o).objs.size = s.heap.objs.size + 1 := Heap.size_push ..
  show _ ∧ _
  rw [hz]
  have he : IsEnum ((s.heap.push o).push { cls := .type "enumerate", data := .fields #[.none, .bool false, .ref s.heap.objs.size, rawInt 0, .none, .none] }) (s.heap.objs.size + 1) s.heap.objs.size 0 .none := by
    have := Heap.get?_push_size (s.heap.push o) (o := { cls := .type "enumerate", data := .fields #[.none, .bool false, .ref s.heap.objs.size, rawInt 0, .none, .none] }) rfl
    rw [hz] at this; exact this
  exact ⟨⟨_, he, rfl⟩, h _ he (Heap.get?_push_of_some _ (Heap.get?_push_size _ B.free)) (by rw [Heap.size_push, hz]) fun b ob x => Heap.get?_push_of_some _ (Heap.get?_push_of_some _ x)⟩
/-- the tuple at a, each item in a new pair -/
def IteT (K : PySem.W.Frag) (a : Addr) (xs : List V) : It :=
  ⟨fun i H => SqT K H a xs ∧ i < xs.length, fun i H v H' => ∃ T x, v = .ref T ∧ H T = none ∧ H' = upd H T (.tup [.int (i : Nat), x]) ∧ xs[i]? = some x, fun i H => SqT K H a xs ∧ xs.length ≤ i⟩
theorem turn_enumT {P : Program} {w : World} {K : PySem.W.Frag} {elts : List Expr} {kk : Nat} {tpos : Pos} (a e it : Addr) (xs : List V) (hai : a ≠ it) (hae : a ≠ e) :
    Turn P w K (.Tuple elts kk tpos) (IteT K a xs) [e, it] e (fun i h => (∃ old, IsEnum h e it ((i : Nat) : Int) old) ∧ h.IsTupleIter it a i ∧ e ≠ it ∧ i ≤ xs.length) where
  mem := List.mem_cons_self
  obj := fun i h ⟨⟨old, he⟩, ⟨o, ho, hc, hd⟩, _, _⟩ b hb => by
    have e' : b = e ∨ b = it := by simpa using hb
    rcases e' with z | z
    · rw [z]; exact ⟨_, he, fun v q => nomatch q⟩
    · rw [z]; exact ⟨o, ho, fun v q => by rw [hd] at q; cases q⟩
  keep := fun i h h' ⟨⟨old, he⟩, hi, hne, hl⟩ k => ⟨⟨old, k e (by simp) _ he⟩, hi.at fun o q => k it (by simp) o q, hne, hl⟩
  item := by
    intro X hP hw hK hc i pins s σ H E I hf ⟨⟨old, he⟩, hit, hne, _⟩ ⟨hq, hxl⟩
    subst hP hw hK
    obtain ⟨x, hx⟩ : ∃ x, xs[i]? = some x := ⟨_, List.getElem?_eq_getElem hxl⟩
    obtain ⟨its, rv, p, hz⟩ := I.tuple hq
    obtain ⟨u, hu, ru⟩ := rv.get hx
    have hel : e < s.heap.objs.size := Heap.lt_size he
    have hil : it < s.heap.objs.size := by obtain ⟨_, q, _⟩ := hit; exact Heap.lt_size q
    have hlt : i < its.toArray.size := by
      rw [List.size_toArray]
      exact (List.getElem?_eq_some_iff.mp hu).1
    refine wpAny_pyNext_enum_itemC (c := (i : Int)) (Draws.tuple (A := X.A.in1) (prog := X.prog) (w := X.w) (I.ok.hd hc) it a hai its.toArray) he ⟨hit, p⟩ hlt hne (by simp [hne, hae.symm]) fun u' h' tk hu' ho hst' hT hsz hk => ?_
    obtain rfl : u' = u := by
      have : its[i]? = some u' := by simpa using hu'
      rw [hu] at this; exact (Option.some.inj this).symm
    refine ⟨_, rfl, wpAny_letOwnedTupleGo_enum (s := { s with heap := h', toks := tk + 1 }) ho fun h'' he' sb => ?_⟩
    have hT2 : h''.get? s.heap.objs.size = some { cls := .type "tuple", data := .seq #[.int i tk, u'] } := (sb.2 _ (Nat.ne_of_gt hel)).trans hT
    have new : ObjOk X.prog X.w (upd H s.heap.objs.size (.tup [.int (i : Nat), x])) h'' s.heap.objs.size (.tup [.int (i : Nat), x]) :=
      ⟨by show 2 ≤ sizeLine; decide, [.int i tk, u'], .cons ⟨_, rfl⟩ (.cons ru .nil), ⟨_, hT2, rfl, _, rfl⟩⟩
    have I1 : Inv X pins σ (upd H s.heap.objs.size (.tup [.int (i : Nat), x])) { s with heap := h'', toks := tk + 1 } :=
      I.turnedNew (ch := [e, it]) (fun b ob hb q => (sb.2 b (fun z => hb (by simp [z]))).trans (hk b ob (fun z => hb (by simp [z])) (fun z => hb (by simp [z])) q)) hf (Nat.le_refl _) new
    refine ⟨.ref s.heap.objs.size, _, I1, rfl, ⟨_, x, rfl, I.hok.fresh (Nat.le_refl _), rfl, hx⟩, ⟨⟨u', ?_⟩, hst'.1.at fun o q => (sb.2 it (Ne.symm hne)).trans q, hne, hxl⟩, fun b hb => ?_⟩
    · have e1 : ((i + 1 : Nat) : Int) = (i : Int) + 1 := by omega
      rw [e1]; exact he'
    · have hb' : b < s.heap.objs.size := by
        have e' : b = e ∨ b = it := by simpa using hb
        rcases e' with z | z
        · rw [z]; exact hel
        · rw [z]; exact hil
      rw [upd_ne (Nat.ne_of_lt hb')]
      exact (hf b hb).1
  done := by
    intro X hP hw hK hc i pins s σ H E I hf ⟨⟨old, he⟩, hit, hne, hle⟩ ⟨hq, hx⟩
    subst hP hw hK
    obtain ⟨its, rv, p, hz⟩ := I.tuple hq
    obtain ⟨f0, f1, f2, f3, f4, f5⟩ := hf it (by simp)
    have hl := rv.length
    have hi : i = its.toArray.size := by rw [List.size_toArray]; omega
    exact wpAny_pyNext_enum_endD (Draws.tuple (A := X.A.in1) (prog := X.prog) (w := X.w) (I.ok.hd hc) it a hai its.toArray) he (by rw [← hi]; exact ⟨hit, p⟩) fun h' eb => ⟨rfl, I.turned (t' := s.toks) (fun b o hb q => eb b o hb q) f0 f1 f3 f4 f5⟩
  self := fun A i s Q E ⟨⟨_, he⟩, _⟩ h => wpAny_pyIter_enum he h
def iEnumT (K : PySem.W.Frag) (ta : TA) : TI := fun σ H R => ta σ H fun vs H1 => ∃ a xs, vs = [.ref a] ∧ SqT K H1 a xs ∧ R (IteT K a xs) H1
theorem pi_enumT {X : Cx} {e : Expr} {ta : TA} {p pos tpos : Pos} {elts : List Expr} {kk : Nat} (hg : Gl X "enumerate") (hm : X.mg "enumerate" = none) (ha : PA X [e] ta) (hs : starEach [e] X.env = [(false, eval e X.env)] := by rfl) :
    PI X (.Tuple elts kk tpos) (.Call (.Name "enumerate" p) [e] [] pos) (iEnumT X.K ta) := by
  refine ⟨fun pins s σ H R I h => ?_⟩
  refine Call_ (ld_blt I hg hm boot_enumerate (PyProof.Rows.callWith_type1 (thn (ha.run pos pins s σ H _ I h) fun us s1 ⟨vs, H1, I1, r1, q1⟩ => ?_) hs rfl))
  obtain ⟨a, xs, rfl, hq, q⟩ := q1
  obtain ⟨u, rfl, r⟩ := vals1 r1
  cases r
  obtain ⟨its, rv, p', hz⟩ := I1.tuple hq
  have hlt : a < s1.heap.objs.size := p'.lt
  refine call_enum1 (begins_tuple a its.toArray) p' fun h' he hit hsz hk => wpAny_pyIter_enum he ?_
  refine ⟨s1.heap.objs.size + 1, [s1.heap.objs.size + 1, s1.heap.objs.size], _, _, H1, rfl, I1.kept (t' := s1.toks) hk,
    turn_enumT a (s1.heap.objs.size + 1) s1.heap.objs.size xs (Nat.ne_of_lt hlt) (Nat.ne_of_lt (Nat.lt_succ_of_lt hlt)), ⟨⟨.none, he⟩, ⟨_, hit, rfl, rfl⟩, Nat.succ_ne_self _, Nat.zero_le _⟩, fun b hb => ?_, q⟩
  have e' : b = s1.heap.objs.size + 1 ∨ b = s1.heap.objs.size := by simpa using hb
  have hle : s1.heap.objs.size ≤ b := by
    rcases e' with z | z
    · rw [z]; exact Nat.le_add_right _ _
    · rw [z]; exact Nat.le_refl _
  exact I1.fpOk hle (I1.hok.fresh hle)
/-- a for over it -/
theorem for_enumT {K : PySem.W.Frag} {a : Addr} {xs : List V} {g : TG} {tb : TS} {D : Ends} {σ : St} {H : Hp} (Pv : Nat → St → Hp → Prop) (h0 : Pv 0 σ H) (hq : ∀ i σ H, Pv i σ H → SqT K H a xs)
    (hs : ∀ i x σ H, xs[i]? = some x → Pv i σ H → ∀ T, H T = none → g (.ref T) σ (upd H T (.tup [.int (i : Nat), x])) fun σ2 H2 => tb { D with nx := Pv (i + 1), ct := Pv (i + 1), bk := D.nx } σ2 H2) (hd : ∀ σ H, Pv xs.length σ H → D.nx σ H) :
    ∃ W : Nat → Nat → St → Hp → Prop, (∃ m, W 0 m σ H) ∧ ∀ i m σ H, W i m σ H → ((IteT K a xs).stop i H ∧ D.nx σ H) ∨
      ((IteT K a xs).go i H ∧ ∃ N : St → Hp → Prop, (∀ σ' H', N σ' H' → ∃ m', m' < m ∧ W (i + 1) m' σ' H') ∧ ∀ x H', (IteT K a xs).yld i H x H' → g x σ H' fun σ2 H2 => tb { D with nx := N, ct := N, bk := D.nx } σ2 H2) := by
  refine ⟨fun i m σ H => m = xs.length - i ∧ i ≤ xs.length ∧ Pv i σ H, ⟨xs.length, by simp, Nat.zero_le _, h0⟩, ?_⟩
  rintro i m σ H ⟨rfl, hi, p⟩
  by_cases hlt : i < xs.length
  · refine .inr ⟨⟨hq i σ H p, hlt⟩, Pv (i + 1), fun σ' H' p' => ⟨xs.length - (i + 1), by omega, rfl, hlt, p'⟩, ?_⟩
    rintro y H' ⟨T, x, rfl, nT, rfl, hx⟩
    exact hs i x σ H hx p T nT
  · have e : i = xs.length := by omega
    subst e
    exact .inl ⟨⟨hq _ σ H p, Nat.le_refl _⟩, hd σ H p⟩
end L2.KB

set_option Elab.async false
set_option linter.all false
set_option maxRecDepth 100000
set_option maxHeartbeats 1000000
/-! dict(zip(..)), dict(pairs) with nested keys, sorted(pairs of a text and a number), an error's base class's own __init__ called by name. -/
namespace L2.KB
open PySem PySem.Spec PyProof.Rows

/-! ### dict(zip(xs, ys)), keys ints or texts, lists of one length -/
section
variable {X : Cx}
def tDictZip (K : PySem.W.Frag) (ta : TA) : TE := fun σ H Q => ta σ H fun vs H1 => ∃ (a b : Addr) (ks : List Key) (ys : List V), vs = [.ref a, .ref b] ∧ SqL K H1 a (ks.map kV) ∧ SqL K H1 b ys ∧ ks.length = ys.length ∧
  ∀ p, H1 p = none → Q (.ref p) (upd H1 p (.dK (mergeK [] (ks.zip ys))))
theorem kv_zip {P : Program} {w : World} : ∀ {ks : List Key} {ys : List V} {us ws : List Value}, Vals (ks.map kV) us → Vals ys ws → ks.length = ys.length → ∃ rs : List (Key × Value), KV (ks.zip ys) rs ∧ rs.length = us.length ∧
    ∀ (i : Nat) (u v : Value), us[i]? = some u → ws[i]? = some v → ∃ k, rs[i]? = some (k, v) ∧ (mixKind P w).is k u = true
  | [], [], us, ws, r1, r2, _ => by
    rw [List.map_nil] at r1
    cases r1
    exact ⟨[], .nil, rfl, fun i u v h => by simp at h⟩
  | [], _ :: _, _, _, _, _, h => by simp at h
  | _ :: _, [], _, _, _, _, h => by simp at h
  | k :: ks, y :: ys, us, ws, r1, r2, h => by
    rw [List.map_cons] at r1
    cases r1 with
    | cons a1 b1 =>
      cases r2 with
      | cons a2 b2 =>
        rename_i u0 us' v0 ws'
        obtain ⟨rs, q1, q2, q3⟩ := kv_zip (P := P) (w := w) b1 b2 (by simpa using h)
        refine ⟨(k, v0) :: rs, .cons ⟨rfl, a2⟩ q1, by simp [q2], fun i u v hu hv => ?_⟩
        match i, hu, hv with
        | 0, hu, hv =>
          cases Option.some.inj hu; cases Option.some.inj hv
          exact ⟨k, rfl, kV_is a1⟩
        | i + 1, hu, hv => exact q3 i u v hu hv
theorem pe_dictZip {e1 e2 : Expr} {ta : TA} {p1 p2 pos1 pos2 : Pos} (hc : X.calm = true) (hgd : Gl X "dict") (hmd : X.mg "dict" = none) (hgz : Gl X "zip") (hmz : X.mg "zip" = none) (ha : PA X [e1, e2] ta)
    (hs1 : starEach [.Call (.Name "zip" p2) [e1, e2] [] pos2] X.env = (false, eval (.Call (.Name "zip" p2) [e1, e2] [] pos2) X.env) :: starEach [] X.env := by rfl)
    (hs : starEach [e1, e2] X.env = (false, eval e1 X.env) :: starEach [e2] X.env := by rfl) (hpl : (backTo pos2 (starEach [e2] X.env)).any (·.1) = false := by rfl) :
    PE X (.Call (.Name "dict" p1) [.Call (.Name "zip" p2) [e1, e2] [] pos2] [] pos1) (tDictZip X.K ta) := by
  refine ⟨fun pins s σ H Q I h => ?_⟩
  refine Call_ (ld_blt I hgd hmd boot_dict (PyProof.Rows.callWith_type1 ?_ hs1 rfl))
  rw [hs1]
  show wpAny _ _ (spliced ((false, eval (.Call (.Name "zip" p2) [e1, e2] [] pos2) X.env) :: backTo pos1 (starEach [] X.env))) _ _ s
  refine Calls.spliced_cons (Call_ (ld_blt I hgz hmz PyProof.Rows.boot_zip (PyProof.Rows.callWith_type1 (thn (ha.run pos2 pins s σ H _ I h) fun us s1 ⟨vs, H1, I1, r1, q1⟩ => ?_) hs hpl)))
  obtain ⟨a, b, ks, ys, rfl, hqx, hqy, hlen, q⟩ := q1
  obtain ⟨u1, u2, rfl, ra, rb⟩ := vals2 r1
  cases ra
  cases rb
  obtain ⟨its, rv, ⟨o1, n1, e1', c1, _, d1⟩, z1⟩ := I1.list hqx
  obtain ⟨its2, rv2, ⟨o2, n2, e2', c2, _, d2⟩, z2⟩ := I1.list hqy
  have L1 : s1.heap.IsList a its.toArray := ⟨o1, e1', c1, n1, d1⟩
  have L2 : s1.heap.IsList b its2.toArray := ⟨o2, e2', c2, n2, d2⟩
  have la : a < s1.heap.objs.size := Heap.lt_size e1'
  have lb : b < s1.heap.objs.size := Heap.lt_size e2'
  refine call_zip_2 L1 L2 fun h' hz hTI hTO h1 h2 hsz hk => ?_
  have J : Inv X pins σ H1 { s1 with heap := h' } := I1.kept (t' := s1.toks) hk
  refine Calls.spliced_nil ?_
  obtain ⟨rs, kv, hrl, hrs⟩ := kv_zip (P := X.prog) (w := X.w) rv rv2 hlen
  have hl1 := rv.length
  have hl2 := rv2.length
  rw [List.length_map] at hl1 z1
  have hmin : min its.toArray.size its2.toArray.size = its.length := by rw [List.size_toArray, List.size_toArray]; omega
  have big := J.big
  refine PySem.call_dict_pairs (knd := mixKind X.prog X.w) (kvs := rs) (s := { s1 with heap := h' }) (PairArg.zip (s1.heap.objs.size + 4) (s1.heap.objs.size + 2) (s1.heap.objs.size + 3) s1.heap.objs.size (s1.heap.objs.size + 1) a b (PySem.W.ktu_apart s1.heap.objs.size a b la lb) its.toArray its2.toArray)
    (I1.ok.hd hc) ⟨hz, hTI, ⟨_, _, hTO⟩, h1, h2, L1.at fun ob e => hk _ ob e, L2.at fun ob e => hk _ ob e⟩ ⟨by rw [hmin, hrl], fun i key v ⟨x1, x2⟩ => hrs i key v (by simpa using x1) (by simpa using x2)⟩ (by rw [hmin]; omega) fun h'' tk hd'' hk'' => ?_
  have old : ∀ c o, s1.heap.get? c = some o → h''.get? c = some o := fun c o e => hk'' c o (fun hm => by
    have hlt := Heap.lt_size e
    have e' : c = s1.heap.objs.size + 4 ∨ c = s1.heap.objs.size + 3 ∨ c = s1.heap.objs.size ∨ c = s1.heap.objs.size + 1 := by simpa using hm
    rcases e' with z | z | z | z
    · rw [z] at hlt; exact absurd hlt (Nat.not_lt.mpr (Nat.le_add_right _ _))
    · rw [z] at hlt; exact absurd hlt (Nat.not_lt.mpr (Nat.le_add_right _ _))
    · rw [z] at hlt; exact absurd hlt (Nat.lt_irrefl _)
    · rw [z] at hlt; exact absurd hlt (Nat.not_lt.mpr (Nat.le_add_right _ _))) (hk c o e)
  have hle : s1.heap.objs.size ≤ h'.objs.size := by rw [hsz]; exact Nat.le_add_right _ _
  have hzs : (mergeK [] (ks.zip ys)).length ≤ sizeLine := by
    have := length_mergeK (ks.zip ys) []
    rw [List.length_zip] at this
    simp at this
    omega
  refine ⟨.ref h'.objs.size, _, I1.laid (t' := tk) (o := .dK (mergeK [] (ks.zip ys))) old hle ?_, rfl, q _ (I1.hok.fresh hle)⟩
  exact dk_new hzs (beq_eq_false_iff_ne.mpr (Ne.symm (Nat.ne_of_lt big))) (kv.merge .nil) hd''
end

/-! ### dict(pairs), keys nested tuples -/
section
variable {X : Cx}
/-- pairs at bs: the key's tuple, the key, the value -/
def PrsAt (H : Hp) (bs : List Addr) (es : List NE) : Prop := Paired (fun (b : Addr) (e : NE) => H b = some (.tup [.ref e.2.1, e.2.2])) bs es
def putAll (kvs more : List (NestedKey × V)) : List (NestedKey × V) := more.foldl (fun acc kv => putK acc kv.1 kv.2) kvs
def rDictPN (K : PySem.W.Frag) (P : Program) (w : World) : List V → Hp → VK → Prop := fun xs H Q => ∃ (a : Addr) (bs : List Addr) (es : List NE), xs = [.ref a] ∧ SqL K H a (bs.map V.ref) ∧ PrsAt H bs es ∧ KeysAt H es ∧
  ∀ p o, H p = none → DN P w (upd H p o) p (putAll [] (kvE es)) → Q (.ref p) (upd H p o)
theorem putAll_new : ∀ (more kvs : List (NestedKey × V)), ((kvs ++ more).map (·.1)).Nodup → putAll kvs more = kvs ++ more
  | [], kvs, _ => by simp [putAll]
  | p :: more, kvs, h => by
    have hn : p.1 ∉ kvs.map (·.1) := fun hm => by
      rw [List.map_append, List.map_cons] at h
      exact (List.nodup_append.mp h).2.2 _ hm _ List.mem_cons_self rfl
    have hv : valV kvs p.1 = none := by
      cases e : valV kvs p.1 with
      | none => rfl
      | some v => exact absurd (valV_in e) hn
    show putAll (putK kvs p.1 p.2) more = _
    have e1 : kvs ++ p :: more = (kvs ++ [(p.1, p.2)]) ++ more := by simp
    rw [putK_new p.2 hv, putAll_new more _ (by rw [← e1]; exact h), e1]
def putEs (es more : List NE) : List NE := more.foldl (fun acc e => putE acc e.1 e.2.1 e.2.2) es
theorem kvE_puts : ∀ (more es : List NE), kvE (putEs es more) = putAll (kvE es) (kvE more)
  | [], es => rfl
  | e :: more, es => by
    show kvE (putEs (putE es e.1 e.2.1 e.2.2) more) = putAll (putK (kvE es) e.1 e.2.2) (kvE more)
    rw [kvE_puts more, kvE_put]
theorem NR.puts : ∀ {more : List NE} {ys : List NX}, NR more ys → ∀ {es : List NE} {xs : List NX}, NR es xs → NR (putEs es more) (storedAllH xs ys) := by
  intro more ys r
  unfold NR at r
  induction r with
  | nil => intro es xs h; exact h
  | @cons p q ps qs h _ ih =>
    intro es xs r
    have := r.put p.1 p.2.1 h.2.2
    rw [show storedH xs p.1 p.2.1 q.2.2 = storedH xs q.1 q.2.1 q.2.2 by rw [h.1, h.2.1]] at this
    exact ih this
theorem KeysAt.puts {H : Hp} : ∀ (more es : List NE), KeysAt H es → KeysAt H more → KeysAt H (putEs es more)
  | [], es, h, _ => h
  | e :: more, es, h, hm => KeysAt.puts more _ (h.put (TX.refl H) (hm e List.mem_cons_self).1 (hm e List.mem_cons_self).2) fun x hx => hm x (List.mem_cons_of_mem _ hx)
theorem putEs_length : ∀ (more es : List NE), (putEs es more).length ≤ es.length + more.length
  | [], es => Nat.le_refl _
  | e :: more, es => by
    have h1 := putEs_length more (putE es e.1 e.2.1 e.2.2)
    have h2 := putE_length es e.1 e.2.1 e.2.2
    show (putEs (putE es e.1 e.2.1 e.2.2) more).length ≤ _
    rw [List.length_cons]; omega
theorem prs_vals {pins : List (Addr × Obj)} {σ : St} {H : Hp} {s : Shared} (I : Inv X pins σ H s) : ∀ {bs : List Addr} {es : List NE}, PrsAt H bs es → ∃ xs : List NX, NR es xs ∧ xs.length = bs.length ∧
    ∀ (j : Nat) (x : NX), xs[j]? = some x → ∃ b, bs[j]? = some b ∧ PairAt s.heap b (.ref x.2.1) x.2.2 := by
  intro bs es r
  unfold PrsAt at r
  induction r with
  | nil => exact ⟨[], .nil, rfl, fun j x h => by simp at h⟩
  | @cons b e bs es h _ ih =>
    obtain ⟨xs, h1, h2, h3⟩ := ih
    obtain ⟨its, rv, p, _⟩ := I.tuple (SqT.of h)
    obtain ⟨u1, u2, rfl, r1, r2⟩ := vals2 rv
    obtain rfl : u1 = Value.ref e.2.1 := r1
    refine ⟨(e.1, e.2.1, u2) :: xs, .cons ⟨rfl, rfl, r2⟩ h1, by simp [h2], fun j x hj => ?_⟩
    match j, hj with
    | 0, hj =>
      cases Option.some.inj hj
      exact ⟨b, rfl, .inl p⟩
    | j + 1, hj => exact h3 j x hj
theorem call_dictPN (hu : X.A.units + 64 < cLine) (hc : X.calm = true) : CallR X (.type "dict") (rDictPN X.K X.prog X.w) := by
  intro pins s σ H xs us Q I r h
  obtain ⟨a, bs, es, rfl, hq, hp, ks, q⟩ := h
  obtain ⟨u, rfl, rx⟩ := vals1 r
  cases rx
  obtain ⟨its, rv, ⟨o1, n1, e1, c1, dd1, d1⟩, hz⟩ := I.list hq
  obtain ⟨xs, nr, hxl, hx⟩ := prs_vals I hp
  have hl := rv.length
  have hel := nr.length
  rw [List.length_map] at hl hz
  have big := I.big
  have itv : ∀ j b, bs[j]? = some b → its[j]? = some (Value.ref b) := fun j b hb => by
    obtain ⟨u, hu, ru⟩ := rv.get (x := V.ref b) (i := j) (by rw [List.getElem?_map, hb]; rfl)
    rw [hu]; exact congrArg some ru
  refine call_dict_pairsH (knd := nestedKind X.prog X.w) (ps := xs) (PairArg.list a its.toArray (fun j => bs.getD j 0) (xs.map fun x => (Value.ref x.2.1, x.2.2))) (I.ok.hd hc) (show X.A.units + 1 + 1 + 8 < cLine by omega)
    ⟨⟨o1, n1, e1, c1, dd1, d1⟩, by rw [List.size_toArray, List.length_map, hxl, hl], fun j k v hj => ?_⟩ ⟨by rw [List.length_map], fun i key v hr => ?_⟩ (fun h' hk x hxm => ?_) (by rw [List.length_map]; omega) fun h' tk hd' hk => ?_
  · rw [List.getElem?_map] at hj
    obtain ⟨x, hxj, e⟩ := Option.map_eq_some_iff.mp hj
    cases e
    obtain ⟨b, hb, pa⟩ := hx j x hxj
    have e : bs.getD j 0 = b := by rw [List.getD_eq_getElem?_getD, hb]; rfl
    refine ⟨?_, by dsimp only; rw [e]; exact pa⟩
    dsimp only
    rw [e]
    simpa using itv j b hb
  · have hr' : (xs.map fun x => (Value.ref x.2.1, x.2.2))[i]? = some (key, v) := hr
    rw [List.getElem?_map] at hr'
    obtain ⟨x, hxj, e⟩ := Option.map_eq_some_iff.mp hr'
    cases e
    exact ⟨x.1, x.2.1, hxj, rfl⟩
  · obtain ⟨e, he, q1, q2⟩ := nr.mem x hxm
    have := key_is I (ks e he).1 (ks e he).2
    rw [q1, q2] at this
    exact nestedKind_stays.stays (fun b o vs n e1 _ => hk b o (Nat.ne_of_lt (Heap.lt_size e1)) (fun z => nomatch z) e1) this
  · have n0 := I.hok.fresh (Nat.le_refl s.heap.objs.size)
    have hzz : (putEs [] es).length ≤ sizeLine := by
      have := putEs_length es []
      simp at this; omega
    refine ⟨.ref s.heap.objs.size, _, I.laid (t' := tk) (o := dnO X.prog X.w s.heap.objs.size (putEs [] es)) (fun b o e => hk b o (fun z => nomatch z) e) (Nat.le_refl _)
      (dnO_ok (beq_eq_false_iff_ne.mpr (Ne.symm (Nat.ne_of_lt big))) hzz (nr.puts .nil) hd'), rfl, q _ _ n0 ⟨putEs [] es, upd_same, by rw [kvE_puts]; rfl, (KeysAt.puts es [] (fun e he => by cases he) ks).mono (tx_new n0)⟩⟩
end
end L2.KB

set_option Elab.async false
set_option linter.all false
set_option maxRecDepth 100000
set_option maxHeartbeats 1000000
/-! sorted(pairs of a text and a number); an error's base class's own __init__ called by name. -/
namespace L2.KB
open PySem PySem.Spec PyProof.Rows
open PySem.W (EachIs dataLe AllAlike Sortable alike)

/-- sleepers as Python sorts them -/
def sortSl (l : St0) : St0 := l.mergeSort (dataLe false dSl)
section
variable {X : Cx}
def rSortedSP (K : PySem.W.Frag) : List V → Hp → VK → Prop := fun xs H Q => ∃ (a : Addr) (vs : List V) (ps : St0), xs = [.ref a] ∧ SqL K H a vs ∧ TpA H vs (ps.map dSl) ∧ ∀ p ws, H p = none → TpA H ws ((sortSl ps).map dSl) → Q (.ref p) (upd H p (.lst ws))
theorem sl_items {H : Hp} : ∀ {vs : List V} {ps : St0}, TpA H vs (ps.map dSl) → ∃ bs : List (Addr × (Str × Int)), bs.map (·.2) = ps ∧ vs = bs.map (fun b => V.ref b.1) ∧ ∀ b ∈ bs, SlA H b.1 b.2
  | vs, [], h => by
    rw [List.map_nil] at h
    cases h
    exact ⟨[], rfl, rfl, fun b hb => by cases hb⟩
  | vs, p :: ps, h => by
    rw [List.map_cons] at h
    cases h with
    | cons h1 h2 =>
      obtain ⟨a, rfl, ha⟩ := tp_sl h1
      obtain ⟨bs, e1, rfl, e3⟩ := sl_items h2
      refine ⟨(a, p) :: bs, by rw [List.map_cons, e1], rfl, fun b hb => ?_⟩
      rcases List.mem_cons.mp hb with rfl | hb
      · exact ha
      · exact e3 b hb
theorem sl_tpa {H : Hp} : ∀ {bs : List (Addr × (Str × Int))}, (∀ b ∈ bs, SlA H b.1 b.2) → TpA H (bs.map fun b => V.ref b.1) ((bs.map (·.2)).map dSl)
  | [], _ => .nil
  | b :: bs, h => .cons (tp_sl_of (h b List.mem_cons_self)) (sl_tpa fun x hx => h x (List.mem_cons_of_mem _ hx))
theorem each_refs : ∀ {bs : List (Addr × (Str × Int))} {us : List Value}, Vals (bs.map fun b => V.ref b.1) us → EachIs (fun v (b : Addr × (Str × Int)) => v = Value.ref b.1) us bs
  | [], us, r => by
    rw [List.map_nil] at r
    cases r
    exact .nil
  | b :: bs, us, r => by
    rw [List.map_cons] at r
    cases r with
    | cons r1 r2 => exact .cons r1 (each_refs r2)
theorem refs_each : ∀ {bs : List (Addr × (Str × Int))} {us : List Value}, EachIs (fun v (b : Addr × (Str × Int)) => v = Value.ref b.1) us bs → Vals (bs.map fun b => V.ref b.1) us
  | [], us, r => by cases r; exact .nil
  | b :: bs, us, r => by
    cases r with
    | cons r1 r2 => exact .cons r1 (refs_each r2)
theorem each_all {α β : Type} {R S : α → β → Prop} : ∀ {us : List α} {bs : List β}, EachIs R us bs → (∀ u b, b ∈ bs → R u b → S u b) → EachIs S us bs
  | _, _, .nil, _ => .nil
  | _, _, .cons h t, f => .cons (f _ _ List.mem_cons_self h) (each_all t fun u b hb => f u b (List.mem_cons_of_mem _ hb))
theorem alike_sl (p q : Str × Int) : alike (dSl p) (dSl q) = true := by simp [dSl, alike, PySem.W.alikeAll]
theorem depth_dsl (p : Str × Int) : (dSl p).depth ≤ 2 := by
  show PyData.depth (.tuple [.str p.1, .int p.2]) ≤ 2
  simp [PyData.depth, PyData.depthAll]
theorem cr_sortedSP (hu : X.A.units + 64 < cLine) : CallR X (.builtin "sorted") (rSortedSP X.K) := by
  intro pins s σ H xs us Q I r h
  obtain ⟨a, vs, ps, rfl, hs, ht, q⟩ := h
  obtain ⟨bs, rfl, rfl, hb⟩ := sl_items ht
  obtain ⟨its, rv, hl, hz⟩ := I.list hs
  rw [Vals.ref1 r]
  have e := each_refs rv
  rw [List.length_map] at hz
  refine PySem.W.sorted_data (enc := fun b : Addr × (Str × Int) => dSl b.2) hl.isList e (each_all e fun u b hm hu => ?_) (AllAlike.of fun b b' => alike_sl _ _) (Sortable.tuples fun b => ⟨_, _, rfl⟩) hz (fun b hm => ?_) fun out ho eo => ?_
  · subst hu
    exact Dp.reads I _ _ _ (Tp.dp (tp_sl_of (hb b hm))) rfl
  · have := depth_dsl b.2
    omega
  · obtain ⟨ep, he'⟩ := PyProof.Rows.sortedAll_at s.heap its out.toArray
    have hm : (bs.mergeSort (dataLe false fun b => dSl b.2)).map (·.2) = sortSl (bs.map (·.2)) := PySem.W.sort_maps (s := dataLe false dSl) (fun b : Addr × (Str × Int) => b.2) fun x _ y _ => rfl
    have hlen : ((bs.mergeSort (dataLe false fun b => dSl b.2)).map fun b => V.ref b.1).length ≤ sizeLine := by rw [List.length_map, List.length_mergeSort]; exact hz
    refine ⟨.ref _, upd H (s.heap.objs.size + 1) (.lst ((bs.mergeSort (dataLe false fun b => dSl b.2)).map fun b => V.ref b.1)), I.laid (t' := s.toks) (fun _ _ => PyProof.Rows.sortedAll_old) (Nat.le_succ _) ⟨hlen, out, ep, refs_each eo, he'⟩, rfl,
      q _ _ (I.hok.fresh (Nat.le_succ _)) ?_⟩
    rw [← hm]
    exact sl_tpa fun b hb' => hb b (List.mem_mergeSort.mp hb')
end

/-! ### B.__init__(self, ..), B a class of the text above ValueError whose own __init__ is ValueError's -/
section
variable {X : Cx} {e : Expr} {es : List Expr} {ta : TA} {p1 p2 pos : Pos}
theorem pe_baseinit {x : Str} {C : Addr} {mc : Value} {pl : Sem Bool} (hg : Gl X x) (hm : X.mg x = some (.ref C)) (rd : PySem.W.readsIn X.K C mc = true) (ga : PySem.W.specialIn X.K (.ref C) "__getattribute__" = some (some (.builtin "type.__getattribute__")))
    (vV : PySem.W.findCls X.K (.ref C) mc "__init__" = some (.val (.builtin "ValueError.__init__"))) (ha : PA X (e :: es) ta)
    (hc : eval (.Call (.Attribute (.Name x p1) "__init__" p2) (e :: es) [] pos) X.env = (do
      let ov ← eval (.Name x p1) X.env
      standAt p2.atName
      let (f, first) ← holding [ov] (getMethod ov "__init__" pl)
      callWith pos f first (backTo pos (starEach (e :: es) X.env)) (backToKw pos (keywordEach [] X.env))) := by rfl)
    (hdb : (x == ("__debug__" : Str)) = false := by decide)
    (he : starEach (e :: es) X.env = (false, eval e X.env) :: starEach es X.env := by rfl) (hpl : (backTo pos (starEach es X.env)).any (·.1) = false := by rfl) :
    PE X (.Call (.Attribute (.Name x p1) "__init__" p2) (e :: es) [] pos) (tVeI X.K ta) := by
  refine ⟨fun pins s σ H Q I h => ?_⟩
  refine PySem.W.methodCall_KW (ld_glob I hg hm ?_ hdb) hc
  refine PySem.W.method_cls I.kIn ga (PySem.W.cls_value I.kIn rd vV rfl ?_)
  show wpAny _ _ (callWith pos (Value.builtin "ValueError.__init__") [] (backTo pos (starEach (e :: es) X.env)) []) _ _ _
  refine PyProof.Rows.callWith_method1 (thn (ha.run pos pins _ σ H _ (I.tok _) h) fun us s1 ⟨vs, H1, I1, r1, a, C', ws, ev, hl, T, ea, q⟩ => ?_) he hpl
  subst ev
  cases r1 with
  | @cons _ u0 _ ur ra rw' =>
    obtain rfl : u0 = Value.ref a := ra
    have hlen : ur.length ≤ sizeLine := by rw [← Paired.length rw', sizeLine_eq]; omega
    exact oinit_ok T I1 ea hlen fun s' J => ⟨.non, H1, J, rfl, q⟩
end
end L2.KB

set_option Elab.async false
set_option linter.all false
set_option maxRecDepth 100000
set_option maxHeartbeats 1000000
/-! Loops over anything that is walked n times; while with a measure of any well-founded kind; xs[i] += e. -/
namespace L2.KB
open PySem PySem.Spec PyProof.Rows

section
/-- a for over J, n turns -/
theorem for_it {J : It} {n : Nat} {g : TG} {tb : TS} {D : Ends} {σ : St} {H : Hp} (Pv : Nat → St → Hp → Prop) (h0 : Pv 0 σ H) (hg : ∀ i σ H, i < n → Pv i σ H → J.go i H) (he : ∀ σ H, Pv n σ H → J.stop n H)
    (hs : ∀ i σ H, i < n → Pv i σ H → ∀ x H', J.yld i H x H' → g x σ H' fun σ2 H2 => tb { D with nx := Pv (i + 1), ct := Pv (i + 1), bk := D.nx } σ2 H2) (hd : ∀ σ H, Pv n σ H → D.nx σ H) :
    ∃ W : Nat → Nat → St → Hp → Prop, (∃ m, W 0 m σ H) ∧ ∀ i m σ H, W i m σ H → (J.stop i H ∧ D.nx σ H) ∨
      (J.go i H ∧ ∃ N : St → Hp → Prop, (∀ σ' H', N σ' H' → ∃ m', m' < m ∧ W (i + 1) m' σ' H') ∧ ∀ x H', J.yld i H x H' → g x σ H' fun σ2 H2 => tb { D with nx := N, ct := N, bk := D.nx } σ2 H2) := by
  refine ⟨fun i m σ H => m = n - i ∧ i ≤ n ∧ Pv i σ H, ⟨n, by simp, Nat.zero_le _, h0⟩, ?_⟩
  rintro i m σ H ⟨rfl, hi, p⟩
  by_cases hlt : i < n
  · exact .inr ⟨hg i σ H hlt p, Pv (i + 1), fun σ' H' p' => ⟨n - (i + 1), by omega, rfl, hlt, p'⟩, fun x H' y => hs i σ H hlt p x H' y⟩
  · have e : i = n := by omega
    subst e
    exact .inl ⟨he σ H p, hd σ H p⟩
/-- a list comprehension over J -/
theorem lc_it {J : It} {n : Nat} {g : TG} {tt : TT} {te : TE} {vs : List Nat} {σ : St} {H1 : Hp} {D : Addr} {Qd : Hp → Prop} (Pv : Nat → Hp → Prop) (h0 : Pv 0 (upd H1 D (.lst []))) (hg : ∀ i H, i < n → Pv i H → J.go i H) (he' : ∀ H, Pv n H → J.stop n H)
    (hs : ∀ i H, i < n → Pv i H → ∀ x H', J.yld i H x H' → g x (wipe σ vs) H' fun σ2 H2 => wipe σ2 vs = wipe σ vs ∧ tt σ2 H2 fun b H3 =>
      if b = true then te σ2 H3 fun y H4 => ∃ acc, H4 D = some (.lst acc) ∧ acc.length < sizeLine ∧ Pv (i + 1) (upd H4 D (.lst (acc ++ [y]))) else Pv (i + 1) H3) (hd : ∀ H, Pv n H → Qd H) :
    ∃ W : Nat → Nat → Hp → Prop, (∃ m, W 0 m (upd H1 D (.lst []))) ∧ ∀ i m H, W i m H →
      (J.stop i H ∧ Qd H) ∨ (J.go i H ∧ ∃ Nx : Hp → Prop, (∀ H', Nx H' → ∃ m', m' < m ∧ W (i + 1) m' H') ∧ ∀ x H', J.yld i H x H' → g x (wipe σ vs) H' fun σ2 H2 => wipe σ2 vs = wipe σ vs ∧ tt σ2 H2 fun b H3 =>
        if b = true then te σ2 H3 fun y H4 => ∃ acc, H4 D = some (.lst acc) ∧ acc.length < sizeLine ∧ Nx (upd H4 D (.lst (acc ++ [y]))) else Nx H3) := by
  refine ⟨fun i m H => m = n - i ∧ i ≤ n ∧ Pv i H, ⟨n, by simp, Nat.zero_le _, h0⟩, ?_⟩
  rintro i m H ⟨rfl, hi, p⟩
  by_cases hlt : i < n
  · exact .inr ⟨hg i H hlt p, Pv (i + 1), fun H' p' => ⟨n - (i + 1), by omega, rfl, hlt, p'⟩, fun x H' y => hs i H hlt p x H' y⟩
  · have e : i = n := by omega
    subst e
    exact .inl ⟨he' H p, hd H p⟩
/-- a dict comprehension over J, nested keys -/
theorem dcN_it {P : Program} {w : World} {J : It} {n : Nat} {g : TG} {tt : TT} {tk tv : TE} {vs : List Nat} {σ : St} {H1 : Hp} {D : Addr} {o : HO} {Qd : Hp → Prop} (Pv : Nat → Hp → Prop) (h0 : Pv 0 (upd H1 D o)) (hg : ∀ i H, i < n → Pv i H → J.go i H) (he' : ∀ H, Pv n H → J.stop n H)
    (hs : ∀ i H, i < n → Pv i H → ∀ x H', J.yld i H x H' → g x (wipe σ vs) H' fun σ2 H2 => wipe σ2 vs = wipe σ vs ∧ tt σ2 H2 fun b H3 =>
      if b = true then tk σ2 H3 fun y H4 => tv σ2 H4 fun z H5 => ∃ (a : Addr) (k : NestedKey) (kvs : List (NestedKey × V)), y = .ref a ∧ DN P w H5 D kvs ∧ kvs.length < sizeLine ∧ Tp H5 (.ref a) k.data ∧ k.depth ≤ 7 ∧
        ∀ o', DN P w (upd H5 D o') D (putK kvs k z) → Pv (i + 1) (upd H5 D o') else Pv (i + 1) H3) (hd : ∀ H, Pv n H → Qd H) :
    ∃ W : Nat → Nat → Hp → Prop, (∃ m, W 0 m (upd H1 D o)) ∧ ∀ i m H, W i m H →
      (J.stop i H ∧ Qd H) ∨ (J.go i H ∧ ∃ Nx : Hp → Prop, (∀ H', Nx H' → ∃ m', m' < m ∧ W (i + 1) m' H') ∧ ∀ x H', J.yld i H x H' → g x (wipe σ vs) H' fun σ2 H2 => wipe σ2 vs = wipe σ vs ∧ tt σ2 H2 fun b H3 =>
        if b = true then tk σ2 H3 fun y H4 => tv σ2 H4 fun z H5 => ∃ (a : Addr) (k : NestedKey) (kvs : List (NestedKey × V)), y = .ref a ∧ DN P w H5 D kvs ∧ kvs.length < sizeLine ∧ Tp H5 (.ref a) k.data ∧ k.depth ≤ 7 ∧
          ∀ o', DN P w (upd H5 D o') D (putK kvs k z) → Nx (upd H5 D o') else Nx H3) := by
  refine ⟨fun i m H => m = n - i ∧ i ≤ n ∧ Pv i H, ⟨n, by simp, Nat.zero_le _, h0⟩, ?_⟩
  rintro i m H ⟨rfl, hi, p⟩
  by_cases hlt : i < n
  · exact .inr ⟨hg i H hlt p, Pv (i + 1), fun H' p' => ⟨n - (i + 1), by omega, rfl, hlt, p'⟩, fun x H' y => hs i H hlt p x H' y⟩
  · have e : i = n := by omega
    subst e
    exact .inl ⟨he' H p, hd H p⟩
end

/-! ### while, the measure in any well-founded order -/
section
theorem codeAny_loopW {M : Model} {A : Around} {c : Code} {R : Result → Shared → Prop} {μ : Type} {lt : μ → μ → Prop} (wf : WellFounded lt) (hq : c.quiet = true) (I : μ → Shared → Prop)
    (turn : ∀ n s, I n s → wpAny M (A.under c) (M.den c)
      (fun fin s' => match fin with | .done f => R (.ok f) s' | .again c' => c' = c ∧ ∃ m, lt m n ∧ I m s') (fun e s' => R (.error e) s') s)
    (n : μ) {s : Shared} (h : I n s) : codeAny M A c R s := by
  revert s
  refine wf.induction (C := fun n => ∀ {s}, I n s → codeAny M A c R s) n fun n ih s h => ?_
  refine codeAny_of_tree (wpAny_mono (turn n s h) (fun fin s' hf => ?_) fun _ _ h' => h')
  cases fin with
  | done f => exact hf
  | again c' =>
    obtain ⟨rfl, m, hm, hI⟩ := hf
    exact ⟨hq, ih m hm hI⟩
theorem codeAny_whileW {prog : Program} {w : World} {A : Around} {R : Result → Shared → Prop} {s : Shared} {μ : Type} {lt : μ → μ → Prop} (wf : WellFounded lt) {test body orelse env} (I : μ → Shared → Prop)
    (turn : ∀ n s, I n s →
      wpAny (model prog w) A (isTrue test env (eval test env)) (fun b s₂ =>
        if b then wpAny (model prog w) A (execs body env) (fun f s₃ => match f with
            | .next | .cont => ∃ m, lt m n ∧ I m s₃
            | .brk => R (.ok .next) s₃
            | .ret v => R (.ok (.ret v)) s₃) (notedBy (model prog w) A env fun e s' => R (.error e) s') s₂
        else wpAny (model prog w) A (execs orelse env) (fun f s₃ => R (.ok f) s₃) (notedBy (model prog w) A env fun e s' => R (.error e) s') s₂)
        (notedBy (model prog w) A env fun e s' => R (.error e) s') s)
    (n : μ) (h : I n s) : codeAny (model prog w) A (.whileLoop test body orelse env) R s := by
  refine codeAny_loopW wf rfl I (fun n s hI => ?_) n h
  show wpAny _ A ((whileTurn test body orelse env).onRaise (fun x => do noteFrame x env; theTreesLotGoes x)) _ _ s
  refine wpAny_noted ?_
  simp only [whileTurn]
  refine wpAny_bind (wpAny_mono (turn n s hI) (fun b s₂ h₂ => ?_) fun _ _ h' => h')
  cases b with
  | false =>
    simp only [Bool.false_eq_true, if_false] at h₂ ⊢
    exact wpAny_bind (wpAny_mono h₂ (fun f s₃ h₃ => wpAny_pure h₃) fun _ _ h' => h')
  | true =>
    simp only [if_true] at h₂ ⊢
    refine wpAny_bind (wpAny_mono h₂ (fun f s₃ h₃ => ?_) fun _ _ h' => h')
    cases f with
    | next => exact wpAny_pure ⟨rfl, h₃⟩
    | cont => exact wpAny_pure ⟨rfl, h₃⟩
    | brk => exact wpAny_pure h₃
    | ret v => exact wpAny_pure h₃
end
section
variable {X : Cx} {pos : Pos}
def tWhileW (c : TT) (tb : TS) : TS := fun D σ H => ∃ (μ : Type) (lt : μ → μ → Prop) (W : μ → St → Hp → Prop), WellFounded lt ∧ (∃ m, W m σ H) ∧ ∀ m σ H, W m σ H →
  c σ H fun b H1 => if b = true then ∃ N : St → Hp → Prop, (∀ σ' H', N σ' H' → ∃ m', lt m' m ∧ W m' σ' H') ∧ tb { D with nx := N, ct := N, bk := D.nx } σ H1 else D.nx σ H1
theorem ps_whileW {c : Expr} {body : List Stmt} {tc : TT} {tb : TS} (hp : PassesOwn (model X.prog X.w) X.A X.env X.xe) (hc : PT X c tc) (hb : PSs X body tb) : PS X (.While c body [] pos) (tWhileW tc tb) := by
  refine ⟨fun pins s σ H D I h => ?_⟩
  obtain ⟨μ, lt, W, wf, ⟨m0, w0⟩, turn⟩ := h
  refine wpAny_While (codeAny_whileW wf (fun n s' => ∃ σ' H', Inv X pins σ' H' s' ∧ W n σ' H') ?_ m0 ⟨σ, H, I, w0⟩)
  rintro n s1 ⟨σ1, H1, I1, w1⟩
  refine wpAny_passesOwn hp (thn (hc.run pins s1 σ1 H1 _ I1 (turn n σ1 H1 w1)) fun b s2 ⟨H2, I2, q2⟩ => ?_)
  cases b with
  | true =>
    obtain ⟨N, hN, q2⟩ := q2
    rw [if_pos rfl]
    refine wpAny_passesOwn hp (thn (hb.run pins s2 σ1 H2 _ I2 q2) fun f s3 q3 => ?_)
    cases f with
    | next =>
      obtain ⟨σ3, H3, I3, n3⟩ := q3
      obtain ⟨m', hm, w3⟩ := hN σ3 H3 n3
      exact ⟨m', hm, σ3, H3, I3, w3⟩
    | cont =>
      obtain ⟨σ3, H3, I3, n3⟩ := q3
      obtain ⟨m', hm, w3⟩ := hN σ3 H3 n3
      exact ⟨m', hm, σ3, H3, I3, w3⟩
    | brk => exact q3
    | ret v => exact q3
  | false =>
    rw [if_neg Bool.false_ne_true]
    exact wpAny_execs_nil ⟨σ1, H2, I2, q2⟩
end

section
variable {X : Cx}
/-- xs[i], i not below 0, as the read of xs[i] += e -/
theorem pget_list : PGet X (fun o i H Q => ∃ p xs j v, o = .ref p ∧ i = .int j ∧ SqL X.K H p xs ∧ 0 ≤ j ∧ xs[j.toNat]? = some v ∧ Q v H) := by
  intro pins s σ H o i ov iv Q I r1 r2 h
  obtain ⟨p, xs, j, z, rfl, rfl, hq, h0, he, q⟩ := h
  cases r1
  obtain ⟨t, rfl⟩ := r2
  obtain ⟨its, r, pl, hz⟩ := I.list hq
  obtain ⟨w, ew, rw'⟩ := r.get he
  have hl := (List.getElem?_eq_some_iff.mp he).1
  have hn := line63
  exact wpAny_mono (wpAny_getItem_list (Q := fun r s' => r = w ∧ EP X pins σ Q r s') pl.isList h0 (by omega) (by simpa using ew) ⟨rfl, z, H, I, rw', q⟩) (fun _ _ z => z.2) fun _ _ z => z
end
end L2.KB

set_option Elab.async false
set_option linter.all false
set_option maxRecDepth 100000
set_option maxHeartbeats 1000000
/-! a == b, a != b, a in xs, a not in xs for data that stand for plain values (texts of any signs). -/
namespace L2.KB
open PySem PySem.Spec PyProof.Rows
/-- f's data are apart as what they stand for is -/
structure Enc {α : Type} [DecidableEq α] (f : α → PyData) : Prop where
  plain : ∀ a, (f a).plain = true
  depth : ∀ a, (f a).depth ≤ 40
  eqv : ∀ a b, PyData.eqv (f a) (f b) = decide (a = b)
theorem Enc.of {α : Type} [DecidableEq α] [i : PySem.W.Datum α] (h : i.depth ≤ 40) : Enc (α := α) PySem.W.Datum.toD := ⟨i.plain, fun a => Nat.le_trans (i.depth_le a) h, i.eqv⟩
theorem encI : Enc PyData.int := ⟨fun _ => rfl, fun _ => Nat.zero_le _, fun a b => PySem.W.Datum.eqv (α := Int) a b⟩
def dStrs (xs : List Str) : PyData := .list (xs.map PyData.str)
def dInts (xs : List Int) : PyData := .list (xs.map PyData.int)
def dRow (xs : List (List Str)) : PyData := .list (xs.map dStrs)
theorem encS : Enc dStrs := Enc.of (α := List Str) (by decide)
theorem encIs : Enc dInts := Enc.of (α := List Int) (by decide)
theorem encSl : Enc dSl := Enc.of (α := Str × Int) (by decide)
theorem encSt : Enc dSt := by
  have E := Enc.of (α := PySem.W.Tup (Str × Int)) (by decide)
  refine ⟨fun a => E.plain ⟨a⟩, fun a => E.depth ⟨a⟩, fun a b => (E.eqv ⟨a⟩ ⟨b⟩).trans (decide_eq_decide.mpr ⟨fun h => congrArg PySem.W.Tup.items h, fun h => by rw [h]⟩)⟩
theorem encPr : Enc dPr := by
  have E := Enc.of (α := PySem.W.Tup (Str × Int) × PySem.W.Tup (Str × Int)) (by decide)
  refine ⟨fun a => E.plain (⟨a.1⟩, ⟨a.2⟩), fun a => E.depth (⟨a.1⟩, ⟨a.2⟩), fun a b => (E.eqv (⟨a.1⟩, ⟨a.2⟩) (⟨b.1⟩, ⟨b.2⟩)).trans (decide_eq_decide.mpr ⟨fun h => ?_, fun h => by rw [h]⟩)⟩
  have h1 := congrArg (fun z => z.1.items) h
  have h2 := congrArg (fun z => z.2.items) h
  exact Prod.ext h1 h2
section
variable {α : Type} [DecidableEq α] {f : α → PyData}
theorem Enc.plainAll (E : Enc f) : ∀ xs : List α, PyData.plainAll (xs.map f) = true
  | [] => rfl
  | x :: xs => by rw [List.map_cons, PyData.plainAll, E.plain x, E.plainAll xs]; rfl
theorem Enc.any (E : Enc f) (a : α) : ∀ xs : List α, ((xs.map f).any fun y => PyData.eqv y (f a)) = decide (a ∈ xs)
  | [] => by simp
  | x :: xs => by
    rw [List.map_cons, List.any_cons, E.eqv, E.any a xs]
    by_cases h : x = a
    · subst h; simp
    · have h' : ¬ a = x := fun z => h z.symm
      simp [h, h']
theorem Enc.eqvAll (E : Enc f) : ∀ xs ys : List α, PyData.eqvAll (xs.map f) (ys.map f) = decide (xs = ys)
  | [], [] => by simp [PyData.eqvAll]
  | [], _ :: _ => by simp [PyData.eqvAll]
  | _ :: _, [] => by simp [PyData.eqvAll]
  | x :: xs, y :: ys => by
    rw [List.map_cons, List.map_cons, PyData.eqvAll, E.eqv x y, E.eqvAll xs ys, ← Bool.decide_and]
    exact decide_eq_decide.mpr (by rw [List.cons.injEq])
theorem Enc.depthAll (E : Enc f) : ∀ xs : List α, PyData.depthAll (xs.map f) ≤ 40
  | [] => Nat.zero_le _
  | x :: xs => by rw [List.map_cons, PyData.depthAll]; exact Nat.max_le.mpr ⟨E.depth x, E.depthAll xs⟩
end
section
variable {X : Cx}
def rEqE (K : PySem.W.Frag) (neg : Bool) : R2 := fun x y H Q => ∃ (α : Type) (_ : DecidableEq α) (f : α → PyData) (a b : α), Enc f ∧ Dp K H x (f a) ∧ Dp K H y (f b) ∧ Q (.bl (if neg = true then !decide (a = b) else decide (a = b))) H
theorem op_eqE (hu : X.A.units + 64 < cLine) : OpR X (compareOp .Eq) (rEqE X.K false) := by
  intro pins s σ H x y v u Q I rx ry h
  obtain ⟨α, _, f, a, b, E, hd, he, q⟩ := h
  obtain ⟨as, r1⟩ := Dp.reads I _ x v hd rx
  obtain ⟨bs, r2⟩ := Dp.reads I _ y u he ry
  have l1 := E.depth a
  refine PySem.SeqAt.eq_plain r1 r2 (E.plain a) (E.plain b) (by omega) ?_
  rw [E.eqv]
  exact ⟨.bl _, H, I, rfl, q⟩
theorem op_neE (hu : X.A.units + 64 < cLine) : OpR X (compareOp .NotEq) (rEqE X.K true) := by
  intro pins s σ H x y v u Q I rx ry h
  obtain ⟨α, _, f, a, b, E, hd, he, q⟩ := h
  obtain ⟨as, r1⟩ := Dp.reads I _ x v hd rx
  obtain ⟨bs, r2⟩ := Dp.reads I _ y u he ry
  have l1 := E.depth a
  refine PySem.SeqAt.ne_plain r1 r2 (E.plain a) (E.plain b) (by omega) ?_
  rw [E.eqv]
  exact ⟨.bl _, H, I, rfl, q⟩
def rInE (K : PySem.W.Frag) (neg : Bool) : R2 := fun x y H Q => ∃ (α : Type) (_ : DecidableEq α) (f : α → PyData) (a : α) (xs : List α), Enc f ∧ Dp K H x (f a) ∧ Dp K H y (.list (xs.map f)) ∧ Q (.bl (if neg = true then !decide (a ∈ xs) else decide (a ∈ xs))) H
theorem op_inE (hu : X.A.units + 64 < cLine) : OpR X (compareOp .In) (rInE X.K false) := by
  intro pins s σ H x y v u Q I rx ry h
  obtain ⟨α, _, f, a, xs, E, hd, he, q⟩ := h
  obtain ⟨as, r1⟩ := Dp.reads I _ x v hd rx
  obtain ⟨bs, r2⟩ := Dp.reads I _ y u he ry
  have l1 := E.depth a
  refine PySem.SeqAt.in_list_data r2 r1 (E.plainAll xs) (E.plain a) (by omega) ?_
  rw [E.any]
  exact ⟨.bl _, H, I, rfl, q⟩
theorem op_notInE (hu : X.A.units + 64 < cLine) : OpR X (compareOp .NotIn) (rInE X.K true) := by
  intro pins s σ H x y v u Q I rx ry h
  obtain ⟨α, _, f, a, xs, E, hd, he, q⟩ := h
  obtain ⟨as, r1⟩ := Dp.reads I _ x v hd rx
  obtain ⟨bs, r2⟩ := Dp.reads I _ y u he ry
  have l1 := E.depth a
  refine PySem.SeqAt.notIn_list_data r2 r1 (E.plainAll xs) (E.plain a) (by omega) ?_
  rw [E.any]
  exact ⟨.bl _, H, I, rfl, q⟩
theorem dp_strs {K : PySem.W.Frag} {H : Hp} {a : Addr} {xs : List Str} (h : H a = some (.lst (xs.map V.str))) : Dp K H (.ref a) (dStrs xs) := .lst (SqL.of h) (TpA.dp (TpA.strs xs))
theorem dp_ints {K : PySem.W.Frag} {H : Hp} {a : Addr} {xs : List Int} (h : H a = some (.lst (xs.map V.int))) : Dp K H (.ref a) (dInts xs) := .lst (SqL.of h) (TpA.dp (TpA.ints xs))
theorem inV_str (x : Str) : ∀ xs : List Str, inV (V.str x) (xs.map V.str) = decide (x ∈ xs)
  | [] => by simp [inV]
  | y :: ys => by
    have ih := inV_str x ys
    unfold inV at ih ⊢
    rw [List.map_cons, List.any_cons, ih]
    show ((y == x) || _) = _
    by_cases h : y = x
    · subst h; simp
    · have h' : ¬ x = y := fun z => h z.symm
      simp [h, h']
theorem flat_strs (xs : List Str) : (xs.map V.str).all flatV = true := by
  rw [List.all_map, List.all_eq_true]; intro _ _; rfl
end
end L2.KB

set_option Elab.async false
set_option linter.all false
set_option maxRecDepth 100000
/-! Rules with the written part K named: for places within a comprehension. -/
namespace L2.KB
open PySem PySem.Spec PyProof.Rows
section
variable {X : Cx} {K : PySem.W.Frag} {P : Program} {w : World}
theorem pg_tupK {es : List Expr} {k : Nat} {t : TGs} {n : Nat} {pos : Pos} (hK : X.K = K) (hc : X.calm = true) (h : PGs X es t)
    (hn : (assignEach es X.env).length = n := by rfl) (hst : (assignEach es X.env).findIdx? (·.1) = none := by rfl) : PG X (.Tuple es k pos) (gTup K n t) := by
  subst hK
  exact pg_tup hc h hn hst
theorem op_in_seqK (hK : X.K = K) : OpR X (compareOp .In) (rIn K false) := by subst hK; exact op_in_seq
theorem op_notIn_seqK (hK : X.K = K) : OpR X (compareOp .NotIn) (rIn K true) := by subst hK; exact op_notIn_seq
theorem ix_listK (hK : X.K = K) : IxR X (rIxL K) := by subst hK; exact ix_list
theorem ix_tupK (hK : X.K = K) : IxR X (rIxT K) := by subst hK; exact ix_tup
theorem op_inEK (hK : X.K = K) (hu : X.A.units + 64 < cLine) : OpR X (compareOp .In) (rInE K false) := by subst hK; exact op_inE hu
theorem call_len_seqK (hK : X.K = K) : CallR X (.builtin "len") (fun xs H Q => ∃ p ys, xs = [.ref p] ∧ (SqL K H p ys ∨ SqT K H p ys) ∧ Q (.int ys.length) H) := by subst hK; exact call_len_seq
theorem call_tuple_ofK (hK : X.K = K) : CallR X (.type "tuple") (fun xs H Q => ∃ p ys, xs = [.ref p] ∧ ((SqL K H p ys ∧ ∀ l, H l = none → Q (.ref l) (upd H l (.tup ys))) ∨ (SqT K H p ys ∧ Q (.ref p) H))) := by subst hK; exact call_tuple_of
theorem ix_NK (hP : X.prog = P) (hw : X.w = w) (hu : X.A.units + 64 < cLine) : IxR X (rIxN P w) := by subst hP hw; exact ix_N hu
theorem op_inNK (hP : X.prog = P) (hw : X.w = w) (hu : X.A.units + 64 < cLine) : OpR X (compareOp .In) (rInN P w false) := by subst hP hw; exact op_inN hu
theorem op_notInNK (hP : X.prog = P) (hw : X.w = w) (hu : X.A.units + 64 < cLine) : OpR X (compareOp .NotIn) (rInN P w true) := by subst hP hw; exact op_notInN hu
end
end L2.KB

set_option Elab.async false
set_option linter.all false
set_option maxRecDepth 100000
/-! The order of texts; sleepers in the order of their names. -/
namespace L2.K83
open PySem PySem.Spec PyProof.Rows L2.KB
open PySem.W (dataLe dataLt keyToks sortLe sortLe_total)
/-- a before b -/
def Bf (a b : Str) : Prop := a.cps.toList < b.cps.toList
theorem Bf.irr (a : Str) : ¬ Bf a a := List.lt_irrefl _
theorem Bf.trans {a b c : Str} (h : Bf a b) (k : Bf b c) : Bf a c := List.lt_trans h k
theorem Bf.asymm {a b : Str} (h : Bf a b) : ¬ Bf b a := fun k => Bf.irr a (h.trans k)
theorem str_ext {x y : Str} (h : x.cps.toList = y.cps.toList) : x = y := PySem.W.str_of_cps h
theorem Bf.tri {a b : Str} (h : ¬ Bf a b) (n : a ≠ b) : Bf b a := by
  rcases List.le_total a.cps.toList b.cps.toList with z | z
  · rcases List.le_iff_lt_or_eq.mp z with q | q
    · exact absurd q h
    · exact absurd (str_ext q) n
  · rcases List.le_iff_lt_or_eq.mp z with q | q
    · exact q
    · exact absurd (str_ext q.symm) n
/-- rising -/
def Asc (xs : List Str) : Prop := xs.Pairwise Bf
theorem Asc.nodup {xs : List Str} (h : Asc xs) : xs.Nodup := h.imp fun k z => by subst z; exact Bf.irr _ k
theorem Asc.unique {xs ys : List Str} (h : Asc xs) (k : Asc ys) (p : xs.Perm ys) : xs = ys :=
  List.Perm.eq_of_pairwise (le := Bf) (fun a b _ _ x y => absurd y x.asymm) h k p
theorem sortedS_weak : ∀ {l : List Str}, sortedS l = true → l.Pairwise fun a b => ¬ Bf b a := by
  have aux : ∀ (l : List Str) (p : Str), risingS p l = true → (p :: l).Pairwise fun a b => ¬ Bf b a := by
    intro l
    induction l with
    | nil => intro p _; simp
    | cons x r ih =>
      intro p h
      have h : (!ltCps x.cps.toList p.cps.toList && risingS x r) = true := h
      rw [Bool.and_eq_true] at h
      have h1 : ¬ Bf x p := by
        have := h.1
        rw [ltCps_eq] at this
        simpa [Bf] using this
      have h2 := ih x h.2
      refine List.pairwise_cons.mpr ⟨fun y hy => ?_, h2⟩
      rcases List.mem_cons.mp hy with rfl | hy
      · exact h1
      · intro z
        have h3 := (List.pairwise_cons.mp h2).1 y hy
        by_cases e : x = y
        · subst e; exact h1 z
        · exact h1 (Bf.trans (Bf.tri h3 (Ne.symm e)) z)
  intro l h
  cases l with
  | nil => exact .nil
  | cons x r => exact aux r x h
theorem sortedS_asc {l : List Str} (h : sortedS l = true) (n : l.Nodup) : Asc l := by
  refine ((sortedS_weak h).and n).imp fun {a b} k => ?_
  exact Bf.tri k.1 k.2.symm
/-- what is sorted already is sorted into itself -/
theorem sortedS_self {xs ys : List Str} (h : Asc xs) (p : ys.Perm xs) (s : sortedS ys = true) : ys = xs :=
  Asc.unique (sortedS_asc s (p.nodup_iff.mpr h.nodup)) h p

theorem toks_sl (p : Str × Int) : keyToks (dSl p) = [.inl 1, .inr p.1.cps.toList, .inl 1, .inl p.2, .inl 0] := rfl
theorem le_sl (p q : Str × Int) : dataLe false dSl p q = !PyProof.Rows.lexLt PyProof.Rows.itemOrd (keyToks (dSl q)) (keyToks (dSl p)) := rfl
theorem lex_skip (x : Int ⊕ List Nat) (r t : List (Int ⊕ List Nat)) : PyProof.Rows.lexLt PyProof.Rows.itemOrd (x :: r) (x :: t) = PyProof.Rows.lexLt PyProof.Rows.itemOrd r t := PyProof.Rows.lex_self (O := PyProof.Rows.itemOrd) x r t
/-- names that differ decide -/
theorem lt_sl {p q : Str × Int} (n : p.1 ≠ q.1) : PyProof.Rows.lexLt PyProof.Rows.itemOrd (keyToks (dSl p)) (keyToks (dSl q)) = decide (p.1.cps.toList < q.1.cps.toList) := by
  have hn : p.1.cps.toList ≠ q.1.cps.toList := fun z => n (str_ext z)
  rw [toks_sl, toks_sl, lex_skip, PyProof.Rows.lex_diff (O := PyProof.Rows.itemOrd) (fun z => hn (Sum.inr.inj z))]
  rfl
theorem le_of_bf {p q : Str × Int} (h : Bf p.1 q.1) : dataLe false dSl p q = true := by
  have n : q.1 ≠ p.1 := fun z => by rw [z] at h; exact Bf.irr _ h
  rw [le_sl, lt_sl n, decide_eq_false (show ¬ q.1.cps.toList < p.1.cps.toList from Bf.asymm h)]; rfl
theorem bf_of_le {p q : Str × Int} (h : dataLe false dSl p q = true) (n : p.1 ≠ q.1) : Bf p.1 q.1 := by
  rw [le_sl, lt_sl n.symm] at h
  exact Bf.tri (by simpa [Bf] using h) n.symm
/-- names rising: sorted as it stands -/
theorem sortSl_self {l : St0} (h : Asc (l.map (·.1))) : sortSl l = l :=
  List.mergeSort_of_pairwise ((List.pairwise_map.mp h).imp fun k => le_of_bf k)
theorem sortSl_perm (l : St0) : (sortSl l).Perm l := List.mergeSort_perm _ _
theorem sortSl_asc {l : St0} (h : (l.map (·.1)).Nodup) : Asc ((sortSl l).map (·.1)) := by
  have tot := sortLe_total (PyProof.Rows.listOrd PyProof.Rows.itemOrd) false fun p : Str × Int => keyToks (dSl p)
  have hp : (sortSl l).Pairwise fun a b => dataLe false dSl a b = true := List.pairwise_mergeSort (fun a b c h k => tot.trans a b c h k) (fun a b => by have := tot.total a b; simpa using this) l
  have hn : ((sortSl l).map (·.1)).Nodup := ((sortSl_perm l).map _).nodup_iff.mpr h
  refine List.pairwise_map.mpr ((hp.and (List.pairwise_map.mp hn)).imp fun {a b} k => bf_of_le k.1 k.2)
/-- the same names, sorted: the same row of names -/
theorem sortSl_names {l m : St0} (h : (l.map (·.1)).Nodup) (e : (m.map (·.1)).Perm (l.map (·.1))) : (sortSl m).map (·.1) = (sortSl l).map (·.1) :=
  Asc.unique (sortSl_asc (e.nodup_iff.mpr h)) (sortSl_asc h) ((((sortSl_perm m).map _).trans e).trans ((sortSl_perm l).map _).symm)
end L2.K83

set_option Elab.async false
set_option linter.all false
set_option linter.unusedSectionVars false
set_option maxRecDepth 100000
/-! What the program computes, in plain Lean. -/
namespace L2.K83
open PySem PySem.Spec PyProof.Rows L2.KB
/-- the called are at their last beat -/
def callS (st : List Str) (s : St0) : St0 := s.map fun p => (p.1, if p.1 ∈ st then 1 else p.2)
/-- those who wake -/
def ups (s : St0) : List Str := (s.filter fun p => decide (p.2 = 1)).map (·.1)
def beatS (rows : List Int) (s : St0) : St0 := s.map fun p => (p.1, if p.2 = 1 then rows.getD ((ups s).length - 1) 0 else p.2 - 1)
def stepS (rows : List Int) (st : List Str) (s : St0) : St0 := beatS rows (callS st s)
def upS (st : List Str) (s : St0) : List Str := ups (callS st s)
/-- a standing of these sleepers -/
structure OkS (nm : List Str) (s : St0) : Prop where
  nm : s.map (·.1) = nm
  pos : ∀ p ∈ s, 1 ≤ p.2
/-- a book's lengths -/
structure OkR (nm : List Str) (rows : List Int) : Prop where
  len : nm.length ≤ rows.length
  ne : 1 ≤ rows.length
  few : rows.length ≤ 40
  pos : ∀ x ∈ rows, 1 ≤ x ∧ x ≤ 1000
section
variable {nm : List Str} {rows : List Int} {s : St0} {st : List Str}
theorem ups_len (s : St0) : (ups s).length ≤ s.length := by unfold ups; rw [List.length_map]; exact List.length_filter_le _ _
theorem OkS.length (h : OkS nm s) : s.length = nm.length := by rw [← h.nm, List.length_map]
theorem OkS.call (h : OkS nm s) (st : List Str) : OkS nm (callS st s) where
  nm := by unfold callS; rw [List.map_map]; exact h.nm
  pos := fun p hp => by
    unfold callS at hp
    obtain ⟨q, hq, rfl⟩ := List.mem_map.mp hp
    show 1 ≤ (if q.1 ∈ st then (1 : Int) else q.2)
    split
    · exact Int.le_refl _
    · exact h.pos q hq
theorem up_pos {p : Str × Int} (hp : p ∈ s) (h1 : p.2 = 1) : 1 ≤ (ups s).length := by
  have : p ∈ s.filter fun p => decide (p.2 = 1) := List.mem_filter.mpr ⟨hp, decide_eq_true h1⟩
  unfold ups; rw [List.length_map]; exact List.length_pos_of_mem this
theorem OkS.beat (h : OkS nm s) (R : OkR nm rows) : OkS nm (beatS rows s) where
  nm := by unfold beatS; rw [List.map_map]; exact h.nm
  pos := fun p hp => by
    unfold beatS at hp
    obtain ⟨q, hq, rfl⟩ := List.mem_map.mp hp
    show 1 ≤ (if q.2 = 1 then rows.getD ((ups s).length - 1) 0 else q.2 - 1)
    have h1 := h.pos q hq
    split
    · rename_i e
      have l1 := up_pos hq e
      have l2 := ups_len s
      have l3 := h.length
      have l4 := R.len
      have hx : (ups s).length - 1 < rows.length := by omega
      rw [List.getD_eq_getElem?_getD, List.getElem?_eq_getElem hx]
      exact (R.pos _ (List.getElem_mem hx)).1
    · omega
theorem OkS.step (h : OkS nm s) (R : OkR nm rows) (st : List Str) : OkS nm (stepS rows st s) := (h.call st).beat R
end
/-- a pair of standings -/
def stpP (r1 r2 : List Int) (st : List Str) (p : St0 × St0) : St0 × St0 := (stepS r1 st p.1, stepS r2 st p.2)
/-- what is told differs -/
def tellD (hd : Bool) (st : List Str) (p : St0 × St0) : Bool := if hd = true then !decide ((upS st p.1).length = (upS st p.2).length) else !decide (upS st p.1 = upS st p.2)
def nxP (r1 r2 : List Int) (hd : Bool) (p : St0 × St0) (st : List Str) : Option (St0 × St0) := if tellD hd st p = true then none else some (stpP r1 r2 st p)
structure OkP (nm : List Str) (p : St0 × St0) : Prop where
  a : OkS nm p.1
  b : OkS nm p.2
theorem OkP.step {nm : List Str} {r1 r2 : List Int} {p : St0 × St0} (h : OkP nm p) (R1 : OkR nm r1) (R2 : OkR nm r2) (st : List Str) : OkP nm (stpP r1 r2 st p) := ⟨h.a.step R1 st, h.b.step R2 st⟩
end L2.K83

set_option Elab.async false
set_option linter.all false
set_option maxRecDepth 100000
set_option maxHeartbeats 1000000
/-! The program's text by places, what stands in the heap, what the top has made. -/
namespace L2.K83
open PySem PySem.Spec PyProof.Rows L2.KB
def topS (i : Nat) : Stmt := PySem.Challenge.pw_sleepmany_k83_whole_alike_closed.main.body.getD i (.Pass ⟨0, 0, 0, 0⟩)
/-- a bag's list -/
def bagO : HO → Bool
  | .lst [.int _, .int _, .int _, .ref _] => true
  | _ => false
/-- all that was tracked stands, bags changed at most -/
def Kp (H H' : Hp) : Prop := ∀ a o, H a = some o → ∃ o', H' a = some o' ∧ (bagO o = false → o' = o)
theorem Kp.refl (H : Hp) : Kp H H := fun a o h => ⟨o, h, fun _ => rfl⟩
theorem Kp.trans {H H1 H2 : Hp} (x : Kp H H1) (y : Kp H1 H2) : Kp H H2 := fun a o h => by
  obtain ⟨o1, h1, e1⟩ := x a o h
  obtain ⟨o2, h2, e2⟩ := y a o1 h1
  refine ⟨o2, h2, fun b => ?_⟩
  have z := e1 b
  subst z
  exact e2 b
theorem Kp.get {H H' : Hp} (k : Kp H H') {a : Addr} {o : HO} (h : H a = some o) (b : bagO o = false := by rfl) : H' a = some o := by
  obtain ⟨o', h', e⟩ := k a o h
  rw [h', e b]
theorem kp_same {H H' : Hp} (s : Same H H') : Kp H H' := fun a o h => ⟨o, s a o h, fun _ => rfl⟩
theorem Kp.free {H H' : Hp} (k : Kp H H') {a : Addr} (h : H' a = none) : H a = none := by
  cases e : H a with
  | none => rfl
  | some o =>
    obtain ⟨o', h', _⟩ := k a o e
    rw [h] at h'; cases h'
/-- a change at a place that is new, or of a bag -/
theorem Kp.upd {H H' : Hp} (k : Kp H H') {p : Addr} {o : HO} (h : H p = none ∨ ∃ b, H p = some b ∧ bagO b = true) : Kp H (upd H' p o) := fun a u e => by
  by_cases z : a = p
  · subst z
    rcases h with h | ⟨b, h, hb⟩
    · rw [h] at e; cases e
    · rw [h] at e; cases e
      exact ⟨o, upd_same, fun q => by rw [hb] at q; cases q⟩
  · rw [upd_ne z]; exact k a u e
theorem same_upd {H H' : Hp} (k : Same H H') {p : Addr} {o : HO} (h : H p = none) : Same H (upd H' p o) := fun a u e => by rw [upd_ne (ne_of_none e h)]; exact k a u e
theorem same_newK {H H' : Hp} (k : Same H H') {p : Addr} {o : HO} (h : H' p = none) : Same H (upd H' p o) := same_upd k (k.free h)
theorem Kp.new {H H' : Hp} (k : Kp H H') {p : Addr} {o : HO} (h : H' p = none) : Kp H (L2.upd H' p o) := k.upd (.inl (k.free h))
theorem tx_kp {H H' : Hp} (k : Kp H H') : TX H H' := fun a xs h => k.get h
/-- a bag at b, its script's list at a -/
def Bag (H : Hp) (b a : Addr) (ns : List Int) : Prop := ∃ x0 x1 x2 : Int, H b = some (.lst [.int x0, .int x1, .int x2, .ref a]) ∧ 0 ≤ x0 ∧ 0 ≤ x1 ∧ x1 < 2147483647 ∧ 0 ≤ x2 ∧ H a = some (.lst (ns.map V.int)) ∧ ∀ n ∈ ns, 0 ≤ n
theorem ints_nobag (ns : List Int) : bagO (.lst (ns.map V.int)) = false := by
  match ns with
  | [] => rfl
  | [_] => rfl
  | [_, _] => rfl
  | [_, _, _] => rfl
  | [_, _, _, _] => rfl
  | _ :: _ :: _ :: _ :: _ :: _ => rfl
theorem strs_nobag (ns : List Str) : bagO (.lst (ns.map V.str)) = false := by
  match ns with
  | [] => rfl
  | [_] => rfl
  | [_, _] => rfl
  | [_, _, _] => rfl
  | [_, _, _, _] => rfl
  | _ :: _ :: _ :: _ :: _ :: _ => rfl
theorem refs_nobag {α : Type} (f : α → Addr) (ns : List α) : bagO (.lst (ns.map fun x => V.ref (f x))) = false := by
  match ns with
  | [] => rfl
  | [_] => rfl
  | [_, _] => rfl
  | [_, _, _] => rfl
  | [_, _, _, _] => rfl
  | _ :: _ :: _ :: _ :: _ :: _ => rfl
theorem Bag.same {H H' : Hp} {b a : Addr} {ns : List Int} (B : Bag H b a ns) (s : Same H H') : Bag H' b a ns := by
  obtain ⟨x0, x1, x2, h1, h2, h3, h4, h5, h6, h7⟩ := B
  exact ⟨x0, x1, x2, s _ _ h1, h2, h3, h4, h5, s _ _ h6, h7⟩
theorem Bag.upd {H : Hp} {b a p : Addr} {ns : List Int} {o : HO} (B : Bag H b a ns) (h1 : b ≠ p) (h2 : a ≠ p) : Bag (upd H p o) b a ns := by
  obtain ⟨x0, x1, x2, e1, e2, e3, e4, e5, e6, e7⟩ := B
  exact ⟨x0, x1, x2, by rw [upd_ne h1]; exact e1, e2, e3, e4, e5, by rw [upd_ne h2]; exact e6, e7⟩
theorem Bag.ne {H : Hp} {b a p : Addr} {ns : List Int} (B : Bag H b a ns) (h : H p = none) : b ≠ p ∧ a ≠ p := by
  obtain ⟨x0, x1, x2, e1, e2, e3, e4, e5, e6, e7⟩ := B
  exact ⟨ne_of_none e1 h, ne_of_none e6 h⟩
/-- from H0 to H: all stands, the bag is one still -/
structure BK (b a : Addr) (ns : List Int) (H0 H : Hp) : Prop where
  b0 : Bag H0 b a ns
  kp : Kp H0 H
  bg : Bag H b a ns
section
variable {b a : Addr} {ns : List Int} {H0 H H1 : Hp} {p : Addr} {o : HO}
theorem BK.start (B : Bag H0 b a ns) : BK b a ns H0 H0 := ⟨B, Kp.refl _, B⟩
theorem BK.step (k : BK b a ns H0 H) (x : Kp H H1) (B : Bag H1 b a ns) : BK b a ns H0 H1 := ⟨k.b0, k.kp.trans x, B⟩
theorem BK.upd (k : BK b a ns H0 H) (h : H0 p = none) : BK b a ns H0 (upd H p o) := ⟨k.b0, k.kp.upd (.inl h), k.bg.upd (k.b0.ne h).1 (k.b0.ne h).2⟩
theorem BK.new (k : BK b a ns H0 H) (h : H p = none) : BK b a ns H0 (L2.upd H p o) := k.upd (k.kp.free h)
theorem BK.same (k : BK b a ns H0 H) (s : Same H H1) : BK b a ns H0 H1 := k.step (kp_same s) (k.bg.same s)
end
/-- what the top has made: built-ins not shadowed, constants, classes -/
structure Txt (K : PySem.W.Frag) (mg : Str → Option Value) (C : Addr) : Prop where
  b_len : mg "len" = none
  b_tuple : mg "tuple" = none
  b_list : mg "list" = none
  b_int : mg "int" = none
  b_bool : mg "bool" = none
  b_str : mg "str" = none
  b_isinstance : mg "isinstance" = none
  b_enumerate : mg "enumerate" = none
  b_zip : mg "zip" = none
  b_reversed : mg "reversed" = none
  b_range : mg "range" = none
  b_min : mg "min" = none
  b_max : mg "max" = none
  b_abs : mg "abs" = none
  b_dict : mg "dict" = none
  b_all : mg "all" = none
  b_sorted : mg "sorted" = none
  b_set : mg "set" = none
  ML : ∃ t, mg "MOST_LENGTH" = some (.int 1000000000 t)
  MS : ∃ t, mg "MOST_SLEEPERS" = some (.int 40 t)
  clB : Cls K C
  nR : NoAttr K C "rows"
  mBook : mg "Book" = some (.ref C)
/-- a def that is called by its name -/
structure Fd (P : Program) (w : World) (K : PySem.W.Frag) (mg : Str → Option Value) (base : Heap) (CX : CXT) (k : Nat) (x : Str) (f : Addr) (fd : FuncData) (ps : List Str) (sp : Sp) : Prop where
  m : mg x = some (.ref f)
  kp : PySem.W.keepIn K (.ref f) = true
  ok : FnOk P w K mg base CX k f fd ps sp
  b : Binds K fd ps []
/-- the room for comparisons of a list with its items -/
theorem unitsD {A : Around} {k : Nat} (h : Room k A) : A.units + 65 < cLine := by have := h.un; omega

/-- one statement, then the rest: what stands between them -/
theorem seq_by {t u : TS} {D : Ends} {σ : St} {H : Hp} (W : St → Hp → Prop) (hu : ∀ σ H, W σ H → u D σ H) (ht : (∀ σ H, W σ H → u D σ H) → t { D with nx := u D } σ H) : tSeq t u D σ H := ht hu
theorem iteD {c A B : Prop} {inst : Decidable c} (h1 : c → A) (h2 : ¬ c → B) : if decide c = true then A else B := by
  by_cases h : c
  · rw [if_pos (decide_eq_true h)]; exact h1 h
  · rw [if_neg (by rw [decide_eq_false h]; exact Bool.false_ne_true)]; exact h2 h
theorem iteDN {c A B : Prop} {inst : Decidable c} (h1 : ¬ c → A) (h2 : c → B) : if (!decide c) = true then A else B := by
  by_cases h : c
  · rw [decide_eq_true h]; exact iteF (h2 h)
  · rw [decide_eq_false h]; exact iteT (h1 h)
theorem iteB {c : Bool} {A B : Prop} (h1 : c = true → A) (h2 : c = false → B) : if c = true then A else B := by
  cases c
  · exact iteF (h2 rfl)
  · exact iteT (h1 rfl)
theorem map_get {α β : Type} {f : α → β} {l : List α} {i : Nat} {y : β} (h : (l.map f)[i]? = some y) : ∃ x, l[i]? = some x ∧ y = f x := by
  rw [List.getElem?_map] at h
  obtain ⟨x, e, z⟩ := Option.map_eq_some_iff.mp h
  exact ⟨x, e, z.symm⟩
theorem atI_int {α : Type} {xs : List α} {i : Int} {v : α} (h0 : 0 ≤ i) (h : xs[i.toNat]? = some v) : atI xs i = some v := by
  have e : ((i.toNat : Nat) : Int) = i := Int.toNat_of_nonneg h0
  have := atI_nat h
  rw [e] at this
  exact this
theorem get_map {α β : Type} {f : α → β} {l : List α} {i : Nat} {x : α} (h : l[i]? = some x) : (l.map f)[i]? = some (f x) := by rw [List.getElem?_map, h]; rfl
theorem same_unlock {H H' : Hp} {d : Addr} {od : Obj} {u : HO} (h : H d = some u) (s : Same (upd H d (.frz od u)) H') : Same H (upd H' d u) := fun a o e => by
  by_cases z : a = d
  · subst z
    rw [upd_same]
    rw [h] at e
    exact e
  · rw [upd_ne z]
    exact s a o (by rw [upd_ne z]; exact e)
theorem kp_unlock {H H' : Hp} {d : Addr} {od : Obj} {u : HO} (h : H d = some u) (s : Kp (upd H d (.frz od u)) H') : Kp H (upd H' d u) := fun a o e => by
  by_cases z : a = d
  · subst z
    rw [upd_same]
    rw [h] at e
    exact ⟨_, rfl, fun _ => (Option.some.inj e)⟩
  · rw [upd_ne z]
    exact s a o (by rw [upd_ne z]; exact e)
theorem tx_unlock {H' : Hp} {d : Addr} {od : Obj} {u : HO} (h : H' d = some (.frz od u)) : TX H' (upd H' d u) := tx_upd fun xs z => by rw [h] at z; exact nomatch (Option.some.inj z)
theorem take_succ {α : Type} {l : List α} {i : Nat} {x : α} (h : l[i]? = some x) : l.take (i + 1) = l.take i ++ [x] := KM.take_snoc h
/-- a list of strokes: at each place the list of a stroke's names -/
def SS (H : Hp) (p : Addr) (l : List (Addr × List Str)) : Prop := H p = some (.lst (l.map fun q => V.ref q.1)) ∧ ∀ q ∈ l, H q.1 = some (.lst (q.2.map V.str))
theorem SS.same {H H' : Hp} {p : Addr} {l : List (Addr × List Str)} (h : SS H p l) (s : Same H H') : SS H' p l := ⟨s _ _ h.1, fun q hq => s _ _ (h.2 q hq)⟩
theorem SS.kp {H H' : Hp} {p : Addr} {l : List (Addr × List Str)} (h : SS H p l) (s : Kp H H') : SS H' p l := ⟨s.get h.1 (refs_nobag _ _), fun q hq => s.get (h.2 q hq) (strs_nobag _)⟩
theorem dpAll_map {K : PySem.W.Frag} {H : Hp} {α β : Type} {g : α → V} {f : β → PyData} {e : α → β} : ∀ {l : List α}, (∀ x ∈ l, Dp K H (g x) (f (e x))) → DpAll K H (l.map g) ((l.map e).map f)
  | [], _ => .nil
  | x :: l, h => .cons (h x List.mem_cons_self) (dpAll_map fun y hy => h y (List.mem_cons_of_mem _ hy))
theorem dp_SS {K : PySem.W.Frag} {H : Hp} {p : Addr} {l : List (Addr × List Str)} (h : SS H p l) : Dp K H (.ref p) (.list ((l.map (·.2)).map dStrs)) :=
  .lst (SqL.of h.1) (dpAll_map fun q hq => dp_strs (h.2 q hq))
theorem cut_take {xs : List V} {v : Int} (h : 0 ≤ v) : cutV xs none (some v) = xs.take v.toNat := by
  unfold cutV
  rw [show HT.sIx xs.length 0 none = 0 from rfl, List.drop_zero, Nat.sub_zero]
  show xs.take (if v < 0 then (v + (xs.length : Int)).toNat else min v.toNat xs.length) = _
  rw [if_neg (by omega)]
  rcases Nat.le_total v.toNat xs.length with z | z
  · rw [Nat.min_eq_left z]
  · rw [Nat.min_eq_right z, List.take_of_length_le (Nat.le_refl _), List.take_of_length_le z]
theorem SS.ne {H : Hp} {p D : Addr} {l : List (Addr × List Str)} (h : SS H p l) (n : H D = none) : p ≠ D ∧ ∀ x ∈ l, x.1 ≠ D := ⟨ne_of_none h.1 n, fun x hx => ne_of_none (h.2 x hx) n⟩
theorem SS.upd {H : Hp} {p D : Addr} {l : List (Addr × List Str)} {o : HO} (h : SS H p l) (n : p ≠ D ∧ ∀ x ∈ l, x.1 ≠ D) : SS (upd H D o) p l :=
  ⟨by rw [upd_ne n.1]; exact h.1, fun x hx => by rw [upd_ne (n.2 x hx)]; exact h.2 x hx⟩
theorem SS.new {H : Hp} {p D : Addr} {l : List (Addr × List Str)} {o : HO} (h : SS H p l) (n : H D = none) : SS (L2.upd H D o) p l := h.upd (h.ne n)
theorem SS.nself {H : Hp} {p : Addr} {l : List (Addr × List Str)} (h : SS H p l) : ∀ x ∈ l, x.1 ≠ p := fun x hx e => by
  have h1 := h.2 x hx
  rw [e, h.1] at h1
  cases l with
  | nil => cases hx
  | cons y l =>
    have h2 := Option.some.inj h1
    injection h2 with h2
    cases q : x.2 with
    | nil => rw [q] at h2; cases h2
    | cons z r =>
      rw [q, List.map_cons, List.map_cons] at h2
      injection h2 with h3 _
      cases h3
theorem SS.snoc {H : Hp} {p D : Addr} {l : List (Addr × List Str)} {zs : List Str} (h : SS H p l) (hD : H D = some (.lst (zs.map V.str))) (n : D ≠ p) : SS (L2.upd H p (.lst ((l.map fun q => V.ref q.1) ++ [.ref D]))) p (l ++ [(D, zs)]) := by
  refine ⟨by rw [upd_same, List.map_append]; rfl, fun x hx => ?_⟩
  rcases List.mem_append.mp hx with z | z
  · rw [upd_ne (h.nself x z)]; exact h.2 x z
  · have : x = (D, zs) := List.mem_singleton.mp z
    subst this
    rw [upd_ne n]; exact hD
/-- an item of a row of tuples -/
theorem tpa_item {α : Type} {f : α → PyData} {H : Hp} {vs : List V} {l : List α} (h : TpA H vs (l.map f)) {i : Nat} {v : V} (e : vs[i]? = some v) : ∃ z, l[i]? = some z ∧ Tp H v (f z) := by
  obtain ⟨d, h1, h2⟩ := h.get e
  obtain ⟨z, h3, rfl⟩ := map_get h1
  exact ⟨z, h3, h2⟩
end L2.K83

set_option Elab.async false
set_option linter.all false
set_option maxRecDepth 100000
/-! Dicts of sleepers by name, as lists. -/
namespace L2.K83
open PySem PySem.Spec PyProof.Rows L2.KB
def kvS (zs : St0) : List (Key × V) := zs.map fun z => ((Sum.inr z.1 : Key), V.int z.2)
def nms (zs : St0) : List Str := zs.map (·.1)
def valS (zs : St0) (n : Str) : Option Int := (zs.find? fun z => decide (z.1 = n)).map (·.2)
def putS (zs : St0) (n : Str) (r : Int) : St0 := if n ∈ nms zs then zs.map (fun z => if z.1 = n then (z.1, r) else z) else zs ++ [(n, r)]
theorem kvS_len (zs : St0) : (kvS zs).length = zs.length := List.length_map _
theorem kvS_keys (zs : St0) : (kvS zs).map (·.1) = (nms zs).map Sum.inr := by unfold kvS nms; rw [List.map_map, List.map_map]; rfl
theorem valV_kvS (n : Str) : ∀ zs : St0, valV (kvS zs) (Sum.inr n : Key) = (valS zs n).map V.int
  | [] => rfl
  | z :: zs => by
    have ih := valV_kvS n zs
    show valV (((Sum.inr z.1 : Key), V.int z.2) :: kvS zs) _ = _
    by_cases h : z.1 = n
    · rw [valV_pos (by rw [h]), valS, List.find?_cons, decide_eq_true h]; rfl
    · rw [valV_neg (fun q => h (Sum.inr.inj q)), ih, valS, valS, List.find?_cons, decide_eq_false h]
theorem valS_at : ∀ {zs : St0}, (nms zs).Nodup → ∀ {z : Str × Int}, z ∈ zs → valS zs z.1 = some z.2
  | [], _, _, h => by cases h
  | y :: zs, nd, z, h => by
    have nd' := List.nodup_cons.mp (show (y.1 :: nms zs).Nodup from nd)
    unfold valS
    rcases List.mem_cons.mp h with rfl | h
    · rw [List.find?_cons, decide_eq_true rfl]; rfl
    · have ne : ¬ y.1 = z.1 := fun e => nd'.1 (e ▸ List.mem_map_of_mem h)
      rw [List.find?_cons, decide_eq_false ne]
      exact valS_at nd'.2 h
theorem any_kvS (n : Str) (zs : St0) : ((kvS zs).any fun kv => decide (kv.1 = (Sum.inr n : Key))) = decide (n ∈ nms zs) := by
  unfold kvS nms
  rw [List.any_map, Bool.eq_iff_iff, List.any_eq_true, decide_eq_true_iff, List.mem_map]
  constructor
  · rintro ⟨z, hz, e⟩
    exact ⟨z, hz, Sum.inr.inj (of_decide_eq_true e)⟩
  · rintro ⟨z, hz, e⟩
    exact ⟨z, hz, decide_eq_true (by show (Sum.inr z.1 : Key) = Sum.inr n; rw [e])⟩
theorem putK_kvS (zs : St0) (n : Str) (r : Int) : putK (kvS zs) (Sum.inr n : Key) (V.int r) = kvS (putS zs n r) := by
  unfold putK putS
  rw [any_kvS]
  by_cases h : n ∈ nms zs
  · rw [decide_eq_true h, if_pos rfl, if_pos h]
    unfold kvS
    rw [List.map_map, List.map_map]
    refine List.map_congr_left fun z _ => ?_
    show (if (Sum.inr z.1 : Key) = Sum.inr n then ((Sum.inr z.1 : Key), V.int r) else ((Sum.inr z.1 : Key), V.int z.2)) = ((Sum.inr (if z.1 = n then (z.1, r) else z).1 : Key), V.int (if z.1 = n then (z.1, r) else z).2)
    by_cases e : z.1 = n
    · rw [if_pos e, if_pos (by rw [e])]
    · rw [if_neg e, if_neg (fun q => e (Sum.inr.inj q))]
  · rw [decide_eq_false h, if_neg Bool.false_ne_true, if_neg h]
    unfold kvS
    rw [List.map_append]; rfl
theorem putS_nms (zs : St0) (n : Str) (r : Int) : nms (putS zs n r) = if n ∈ nms zs then nms zs else nms zs ++ [n] := by
  unfold putS
  by_cases h : n ∈ nms zs
  · rw [if_pos h, if_pos h]
    unfold nms
    rw [List.map_map]
    refine List.map_congr_left fun z _ => ?_
    show (if z.1 = n then (z.1, r) else z).1 = z.1
    split <;> rfl
  · rw [if_neg h, if_neg h]
    unfold nms
    rw [List.map_append]; rfl
theorem putS_nd {zs : St0} (n : Str) (r : Int) (h : (nms zs).Nodup) : (nms (putS zs n r)).Nodup := by
  rw [putS_nms]
  split
  · exact h
  · rename_i c
    refine List.nodup_append.mpr ⟨h, by simp, fun x hx y hy e => ?_⟩
    have : y = n := List.mem_singleton.mp hy
    subst this; subst e; exact c hx
theorem putS_len (zs : St0) (n : Str) (r : Int) : (putS zs n r).length ≤ zs.length + 1 := by
  unfold putS
  split
  · rw [List.length_map]; omega
  · rw [List.length_append]; exact Nat.le_refl _
theorem putS_all {P : Int → Prop} {zs : St0} {n : Str} {r : Int} (h : ∀ z ∈ zs, P z.2) (k : P r) : ∀ z ∈ putS zs n r, P z.2 := by
  intro z hz
  unfold putS at hz
  by_cases c : n ∈ nms zs
  · rw [if_pos c] at hz
    obtain ⟨y, hy, e⟩ := List.mem_map.mp hz
    subst e
    by_cases q : y.1 = n
    · rw [if_pos q]; exact k
    · rw [if_neg q]; exact h y hy
  · rw [if_neg c] at hz
    rcases List.mem_append.mp hz with q | q
    · exact h z q
    · have : z = (n, r) := List.mem_singleton.mp q
      subst this; exact k
/-- dict(zip(names, rests)) -/
theorem merge_kvS : ∀ (ns : List Str) (rs : List Int) (zs : St0), ∃ ys : St0, mergeK (kvS zs) ((ns.map (Sum.inr : Str → Key)).zip (rs.map V.int)) = kvS ys ∧ ((nms zs).Nodup → (nms ys).Nodup) ∧ ys.length ≤ zs.length + rs.length ∧ ∀ P : Int → Prop, (∀ z ∈ zs, P z.2) → (∀ r ∈ rs, P r) → ∀ z ∈ ys, P z.2
  | [], rs, zs => ⟨zs, by simp [mergeK], id, by omega, fun P h _ => h⟩
  | n :: ns, [], zs => ⟨zs, by simp [mergeK], id, by omega, fun P h _ => h⟩
  | n :: ns, r :: rs, zs => by
    obtain ⟨ys, h1, h2, h3, h4⟩ := merge_kvS ns rs (putS zs n r)
    refine ⟨ys, ?_, fun nd => h2 (putS_nd n r nd), ?_, fun P hz hr => h4 P (putS_all hz (hr r List.mem_cons_self)) fun x hx => hr x (List.mem_cons_of_mem _ hx)⟩
    · rw [← h1, ← putK_kvS]; rfl
    · have := putS_len zs n r
      rw [List.length_cons]; omega
/-- dict([(name, rest), ..]) of names that are apart: the list itself -/
theorem merge_self : ∀ (more zs : St0), (nms (zs ++ more)).Nodup → mergeK (kvS zs) (kvS more) = kvS (zs ++ more)
  | [], zs, _ => by rw [List.append_nil]; rfl
  | y :: more, zs, nd => by
    have e1 : zs ++ y :: more = (zs ++ [y]) ++ more := by simp
    have hn : y.1 ∉ nms zs := fun hm => by
      unfold nms at nd
      rw [List.map_append, List.map_cons] at nd
      exact (List.nodup_append.mp nd).2.2 _ hm _ List.mem_cons_self rfl
    show mergeK (putK (kvS zs) (Sum.inr y.1) (V.int y.2)) (kvS more) = _
    rw [putK_kvS, putS, if_neg hn, merge_self more (zs ++ [y]) (by rw [← e1]; exact nd), e1]
end L2.K83

set_option Elab.async false
set_option linter.all false
set_option linter.unusedSectionVars false
set_option maxRecDepth 100000
/-! A row gone through beside two halls, in plain Lean. -/
namespace L2.K83
open PySem PySem.Spec PyProof.Rows L2.KB
def curP (r1 r2 : List Int) (p : St0 × St0) (row : List (List Str)) : St0 × St0 := row.foldl (fun q st => stpP r1 r2 st q) p
/-- the pairs behind the first i strokes, all of them -/
def psN (r1 r2 : List Int) (p : St0 × St0) (row : List (List Str)) (n : Nat) : List (St0 × St0) := (List.range n).map fun i => curP r1 r2 p (row.take i)
def unN (r1 r2 : List Int) (hd : Bool) (p : St0 × St0) (row : List (List Str)) (n : Nat) : List Int := ((List.range n).filter fun i => tellD hd (row.getD i []) (curP r1 r2 p (row.take i))).map fun i : Nat => (i : Int)
def gonePs (r1 r2 : List Int) (p : St0 × St0) (row : List (List Str)) : List (St0 × St0) := psN r1 r2 p row (row.length + 1)
def goneUn (r1 r2 : List Int) (hd : Bool) (p : St0 × St0) (row : List (List Str)) : List Int := unN r1 r2 hd p row row.length
section
variable {r1 r2 : List Int} {hd : Bool} {p : St0 × St0} {row : List (List Str)} {nm : List Str} {st : List Str} {i n : Nat}
theorem psN_len : (psN r1 r2 p row n).length = n := by unfold psN; rw [List.length_map, List.length_range]
theorem psN_succ : psN r1 r2 p row (n + 1) = psN r1 r2 p row n ++ [curP r1 r2 p (row.take n)] := by unfold psN; rw [List.range_succ, List.map_append]; rfl
theorem unN_succ : unN r1 r2 hd p row (n + 1) = unN r1 r2 hd p row n ++ (if tellD hd (row.getD n []) (curP r1 r2 p (row.take n)) = true then [(n : Int)] else []) := by
  unfold unN
  rw [List.range_succ, List.filter_append, List.map_append]
  congr 1
  by_cases c : tellD hd (row.getD n []) (curP r1 r2 p (row.take n)) = true
  · rw [if_pos c, List.filter_cons_of_pos (p := fun i : Nat => tellD hd (row.getD i []) (curP r1 r2 p (row.take i))) c]; rfl
  · rw [if_neg c, List.filter_cons_of_neg (p := fun i : Nat => tellD hd (row.getD i []) (curP r1 r2 p (row.take i))) c]; rfl
theorem unN_len : (unN r1 r2 hd p row n).length ≤ n := by
  unfold unN
  rw [List.length_map]
  exact Nat.le_trans (List.length_filter_le _ _) (by rw [List.length_range]; exact Nat.le_refl _)
theorem curP_succ (h : row[n]? = some st) : curP r1 r2 p (row.take (n + 1)) = stpP r1 r2 st (curP r1 r2 p (row.take n)) := by
  unfold curP
  rw [KM.take_snoc h, List.foldl_append]; rfl
theorem OkP.cur (h : OkP nm p) (R1 : OkR nm r1) (R2 : OkR nm r2) : ∀ row : List (List Str), OkP nm (curP r1 r2 p row) := by
  intro row
  induction row generalizing p with
  | nil => exact h
  | cons st row ih => exact ih (h.step R1 R2 st)
/-- a row that goes -/
theorem run_cur : ∀ (row : List (List Str)) {p q : St0 × St0}, KM.run (nxP r1 r2 hd) p row = some q → q = curP r1 r2 p row
  | [], p, q, h => (Option.some.inj h).symm
  | st :: row, p, q, h => by
    rw [KM.run_cons] at h
    cases e : nxP r1 r2 hd p st with
    | none => rw [e] at h; cases h
    | some b =>
      rw [e] at h
      have hb : b = stpP r1 r2 st p := by
        unfold nxP at e
        by_cases c : tellD hd st p = true
        · rw [if_pos c] at e; cases e
        · rw [if_neg c] at e; exact (Option.some.inj e).symm
      subst hb
      exact run_cur row h
theorem nx_tell : nxP r1 r2 hd p st = none ↔ tellD hd st p = true := by
  unfold nxP
  by_cases c : tellD hd st p = true
  · rw [if_pos c]; simp [c]
  · rw [if_neg c]; simp [c]
/-- a row that goes parts nothing -/
theorem un_of_run (h : ∃ q, KM.run (nxP r1 r2 hd) p row = some q) : ∀ n, n ≤ row.length → unN r1 r2 hd p row n = [] := by
  intro n hn
  induction n with
  | zero => rfl
  | succ n ih =>
    obtain ⟨q, hq⟩ := h
    have hlt : n < row.length := hn
    have hs : row[n]? = some row[n] := List.getElem?_eq_getElem hlt
    obtain ⟨c1, e1⟩ := KM.run_take row p hq n
    obtain ⟨c2, e2⟩ := KM.run_take row p hq (n + 1)
    rw [KM.take_snoc hs, KM.run_snoc, e1] at e2
    have e2 : nxP r1 r2 hd c1 row[n] = some c2 := e2
    have hc := run_cur _ e1
    rw [unN_succ, ih (Nat.le_of_lt hlt), List.getD_eq_getElem?_getD, hs, ← hc, if_neg]
    · rfl
    · intro z
      have z : tellD hd row[n] c1 = true := z
      rw [nx_tell.mpr z] at e2; cases e2
theorem goneUn_run (h : ∃ q, KM.run (nxP r1 r2 hd) p row = some q) : goneUn r1 r2 hd p row = [] := un_of_run h _ (Nat.le_refl _)
/-- a row that goes, and then what is told differs: at the last place alone -/
theorem goneUn_parted {q : St0 × St0} (h : KM.run (nxP r1 r2 hd) p row = some q) (ht : nxP r1 r2 hd q st = none) : goneUn r1 r2 hd p (row ++ [st]) = [(row.length : Int)] := by
  have hq := run_cur _ h
  have l : (row ++ [st]).length = row.length + 1 := by simp
  have hpre : ∀ n, n ≤ row.length → unN r1 r2 hd p (row ++ [st]) n = unN r1 r2 hd p row n := by
    intro n hn
    induction n with
    | zero => rfl
    | succ n ih =>
      rw [unN_succ, unN_succ, ih (Nat.le_of_succ_le hn), List.take_append_of_le_length (Nat.le_of_succ_le hn), List.getD_eq_getElem?_getD, List.getD_eq_getElem?_getD, List.getElem?_append_left hn]
  unfold goneUn
  rw [l, unN_succ, hpre _ (Nat.le_refl _), un_of_run ⟨q, h⟩ _ (Nat.le_refl _), List.take_append_of_le_length (Nat.le_refl _), List.take_length, List.getD_eq_getElem?_getD, List.getElem?_append_right (Nat.le_refl _), Nat.sub_self, ← hq]
  show [] ++ (if tellD hd st q = true then _ else _) = _
  rw [if_pos (nx_tell.mp ht)]; rfl
/-- all pairs on the way of a row that goes within a closed lot -/
theorem gone_mem {lot : List (St0 × St0)} {ss : List (List Str)} (h0 : p ∈ lot) (hc : ∀ q ∈ lot, ∀ st ∈ ss, ∃ q', nxP r1 r2 hd q st = some q' ∧ q' ∈ lot) :
    ∀ (row : List (List Str)), (∀ st ∈ row, st ∈ ss) → ∃ q, KM.run (nxP r1 r2 hd) p row = some q ∧ q ∈ lot := by
  intro row
  induction row generalizing p with
  | nil => exact fun _ => ⟨p, rfl, h0⟩
  | cons st row ih =>
    intro hr
    obtain ⟨q', e, hq⟩ := hc p h0 st (hr st List.mem_cons_self)
    obtain ⟨q, e2, h2⟩ := ih hq fun x hx => hr x (List.mem_cons_of_mem _ hx)
    refine ⟨q, ?_, h2⟩
    rw [KM.run_cons, e]; exact e2
theorem gonePs_mem {lot : List (St0 × St0)} {ss : List (List Str)} (h0 : p ∈ lot) (hc : ∀ q ∈ lot, ∀ st ∈ ss, ∃ q', nxP r1 r2 hd q st = some q' ∧ q' ∈ lot) (hr : ∀ st ∈ row, st ∈ ss) : ∀ q ∈ gonePs r1 r2 p row, q ∈ lot := by
  intro q hq
  unfold gonePs psN at hq
  obtain ⟨i, _, rfl⟩ := List.mem_map.mp hq
  obtain ⟨q, e, h⟩ := gone_mem h0 hc (row.take i) fun st hs => hr st (List.mem_of_mem_take hs)
  rw [← run_cur _ e]; exact h
end
end L2.K83

set_option Elab.async false
set_option linter.all false
set_option maxRecDepth 100000
set_option maxHeartbeats 1000000
/-! The law's bag and what is drawn of it. -/
namespace L2.K83
open PySem PySem.Spec PyProof.Rows L2.KB
section
variable {P : Program} {w : World} {K : PySem.W.Frag} {mg : Str → Option Value} {base : Heap} {C : Addr}
-- _law_bag: slots 0 _law_script, 1 _law_cell
abbrev S__law_bag : Stmt := (topS 33)
abbrev N__law_bag : List Str := ["_law_script", "_law_cell"]
theorem sc__law_bag : FnScope N__law_bag ["_law_script"] (defScope S__law_bag) := ⟨rfl, rfl, rfl, by decide +kernel, rfl, by decide +kernel, by decide +kernel⟩
def sp_bag (K : PySem.W.Frag) : Sp := fun vs H Q _ => ∃ (c : Addr) (ns : List Int), vs = [.ref c] ∧ SqL K H c (ns.map V.int) ∧ ns.length ≤ 63 ∧
  ∀ H' b a ms, Same H H' → Bag H' b a ms → Q (.ref b) H'
theorem ok_bag {f : Addr} {fd : FuncData} (F : Fun K "_law_bag" "_law_bag" S__law_bag f fd) (T : Txt K mg C) : FnOk P w K mg base CX0 1 f fd ["_law_script"] (sp_bag K) := by
  refine F.ok sc__law_bag (fun vs H Q E h => ?_) (fun cdv A outer s H vs Q E hr h => ?_)
  · obtain ⟨a, ns, rfl, _⟩ := h
    rfl
  · obtain ⟨a, ns, rfl, hS, hl, k⟩ := h
    refine ⟨_, (pss_one (ps_ret (pe_lst (pa_cons pe_int (pa_cons pe_int (pa_cons pe_int (pa_cons (pe_lc (own := [("_law_cell", 1)]) (g := (gName 1)) (tt := tYes) rfl sc__law_bag.nd (pi_list (pe_slice sl_list (pv 0) po_none (po_some pe_int))) (blkOk_by (own := [("_law_cell", 1)]) (N := N__law_bag) (sc := defScope S__law_bag) (by decide +kernel)) (fun _ _ _ _ _ => (pg_name (i := 1) sc__law_bag.nd rfl (Or.inl rfl))) (fun _ _ _ _ _ => pts_nil) (fun _ _ _ _ _ => (pe_callB call_abs (by rfl) T.b_abs (by decide +kernel) (pa_cons (pv 1) pa_nil)))) pa_nil))))))), ?_⟩
    refine ⟨_, rfl, 63, rfl, a, _, rfl, hS, fun p hp => ?_⟩
    have ec : cutV (ns.map V.int) none (some 63) = ns.map V.int := by
      unfold cutV
      rw [show HT.sIx (ns.map V.int).length 0 none = 0 from rfl, show HT.sIx (ns.map V.int).length (ns.map V.int).length (some 63) = min 63 (ns.map V.int).length from HT.sIx_nat _ _ 63, List.drop_zero, Nat.sub_zero, List.length_map, Nat.min_eq_right hl, List.take_of_length_le (by rw [List.length_map]; exact Nat.le_refl _)]
    rw [ec]
    refine ⟨p, rfl, ⟨_, SqL.of upd_same⟩, fun D hD => lc_list (K := K) (a := p) (xs := ns.map V.int) (fun i H' => ∃ acc : List Int, H' D = some (.lst (acc.map V.int)) ∧ (∀ x ∈ acc, 0 ≤ x) ∧ acc.length = i ∧ H' p = some (.lst (ns.map V.int)) ∧ Same H H') ?_ ?_ ?_ ?_⟩
    · refine ⟨[], upd_same, ?_, rfl, ?_, same_newK (same_newK (fun _ _ h => h) hp) hD⟩
      · intro x hx; cases hx
      · rw [upd_ne (ne_of_none upd_same hD)]; exact upd_same
    · rintro i H' _ ⟨acc, e1, e2, e3, e4, e5⟩
      exact SqL.of e4
    · rintro i x H' hi ⟨acc, e1, e2, e3, e4, e5⟩
      obtain ⟨z, hz, rfl⟩ := map_get hi
      have hil : i < ns.length := (List.getElem?_eq_some_iff.mp hz).1
      have npD : D ≠ p := fun z => by subst z; rw [upd_same] at hD; cases hD
      refine ⟨rfl, _, rfl, z, rfl, _, e1, ?_, acc ++ [if z < 0 then -z else z], ?_, ?_, ?_, ?_, ?_⟩
      · rw [List.length_map]; exact small1000 (by omega)
      · rw [upd_same, List.map_append]; rfl
      · intro x hx
        rcases List.mem_append.mp hx with q | q
        · exact e2 x q
        · have : x = _ := List.mem_singleton.mp q
          subst this
          split <;> omega
      · rw [List.length_append, e3]; rfl
      · rw [upd_ne npD.symm]; exact e4
      · refine same_upd e5 ?_
        have : (upd H p (.lst (ns.map V.int))) D = none := hD
        rw [upd_ne npD] at this
        exact this
    · rintro H' ⟨acc, e1, e2, e3, e4, e5⟩
      refine ⟨(by show 4 ≤ sizeLine; decide), fun b hb => k _ b D acc (same_newK e5 hb) ⟨0, 1234567891, 0, upd_same, by decide, by decide, by decide, by decide, ?_, e2⟩⟩
      rw [upd_ne (ne_of_none e1 hb)]
      exact e1
-- _law_take: slots 0 _law_bag_here, 1 _law_many, 2 _law_cell, 3 _law_value, 4 _law_first, 5 _law_second
abbrev S__law_take : Stmt := (topS 34)
abbrev N__law_take : List Str := ["_law_bag_here", "_law_many", "_law_cell", "_law_value", "_law_first", "_law_second"]
theorem sc__law_take : FnScope N__law_take ["_law_bag_here", "_law_many"] (defScope S__law_take) := ⟨rfl, rfl, rfl, by decide +kernel, rfl, by decide +kernel, by decide +kernel⟩
def sp_take : Sp := fun vs H Q _ => ∃ (b a : Addr) (ns : List Int) (m : Int), vs = [.ref b, .int m] ∧ Bag H b a ns ∧ 1 ≤ m ∧ m ≤ 1000 ∧
  ∀ H' v, Kp H H' → Bag H' b a ns → 0 ≤ v → v < m → Q (.int v) H'
theorem ok_take {f : Addr} {fd : FuncData} (F : Fun K "_law_take" "_law_take" S__law_take f fd) (T : Txt K mg C) : FnOk P w K mg base CX0 1 f fd ["_law_bag_here", "_law_many"] sp_take := by
  refine F.ok sc__law_take (fun vs H Q E h => ?_) (fun cdv A outer s H vs Q E hr h => ?_)
  · obtain ⟨b, a, ns, m, rfl, _⟩ := h
    rfl
  · obtain ⟨b, a, ns, m, rfl, B, h1, h2, k⟩ := h
    refine ⟨_, (pss_cons (ps_if (pt_cmpR op_eq (pe_ix ix_list (pv 0) pe_int (fun _ _ => rfl)) pe_int (nomark _)) (pss_cons (ps_set (i := 2) sc__law_take.nd rfl (Or.inl rfl) pe_int)
        (pss_cons (ps_if (pt_cmpR op_lt (pe_ix ix_list (pv 0) pe_int (fun _ _ => rfl)) (pe_callB call_len_seq (by rfl) T.b_len PySem.boot_len (pa_cons (pe_ix ix_list (pv 0) pe_int (fun _ _ => rfl)) pa_nil)) (nomark _)) (pss_one (ps_set (i := 2) sc__law_take.nd rfl (Or.inl rfl) (pe_ix ix_list (pe_ix ix_list (pv 0) pe_int (fun _ _ => rfl)) (pe_ix ix_list (pv 0) pe_int (fun _ _ => rfl)) (fun _ _ => rfl)))) pss_nil)
        (pss_cons (ps_augS (pv 0) pe_int pget_list pe_int ip_add set_list)
        (pss_cons (ps_if (pt_cmpR op_ge (pv 2) pe_int (nomark _)) (pss_one (ps_asg (pv 2) (pg_sub (pv 0) pe_int set_list))) pss_nil)
        (pss_one (ps_asg (pe_op op_mod (pe_op op_add (pe_op op_add (pe_op op_mul (pe_ix ix_list (pv 0) pe_int (fun _ _ => rfl)) pe_int) (pe_op op_mod (pv 2) pe_int)) (pe_op op_mul pe_int (pe_ix ix_list (pv 0) pe_int (fun _ _ => rfl)))) pe_int) (pg_sub (pv 0) pe_int set_list))))))) pss_nil)
      (pss_cons (ps_if (pt_cmpR op_gt (pe_ix ix_list (pv 0) pe_int (fun _ _ => rfl)) pe_int (nomark _)) (pss_cons (ps_set (i := 3) sc__law_take.nd rfl (Or.inl rfl) (pe_op op_mod (pe_ix ix_list (pv 0) pe_int (fun _ _ => rfl)) (pv 1)))
        (pss_cons (ps_asg (pe_op op_fdiv (pe_ix ix_list (pv 0) pe_int (fun _ _ => rfl)) (pv 1)) (pg_sub (pv 0) pe_int set_list))
        (pss_one (ps_ret (pv 3))))) pss_nil)
      (pss_cons (ps_set (i := 4) sc__law_take.nd rfl (Or.inl rfl) (pe_op op_mod (pe_op op_mul (pe_op op_add (pe_ix ix_list (pv 0) pe_int (fun _ _ => rfl)) pe_int) pe_int) pe_int))
      (pss_cons (ps_set (i := 5) sc__law_take.nd rfl (Or.inl rfl) (pe_op op_mod (pe_op op_mul (pe_op op_mod (pe_op op_mul (pv 4) (pv 4)) pe_int) pe_int) pe_int))
      (pss_cons (ps_if (pt_cmpR op_gt (pv 1) pe_int (nomark _)) (pss_one (ps_ret (pe_op op_mod (pe_op op_add (pe_op op_mul (pv 5) pe_int) (pv 4)) (pv 1)))) pss_nil)
      (pss_one (ps_ret (pe_op op_mod (pe_op op_fdiv (pv 5) pe_int) (pv 1))))))))), ?_⟩
    obtain ⟨x0, x1, x2, hb, g0, g1, g1', g2, ha, gn⟩ := id B
    have hab : a ≠ b := fun z => by subst z; rw [ha] at hb; have := Option.some.inj hb; have q := congrArg bagO this; rw [ints_nobag] at q; cases q
    refine seq_by (fun σ H' => ∃ (v2 : Option V) (y0 y1 y2 : Int), σ = [some (.ref b), some (.int m), v2, none, none, none] ∧ H' b = some (.lst [.int y0, .int y1, .int y2, .ref a]) ∧ 0 ≤ y0 ∧ 0 ≤ y1 ∧ y1 < 2147483647 ∧ 0 ≤ y2 ∧ H' a = some (.lst (ns.map V.int)) ∧ Kp H H') ?_ (fun go => ?_)
    · rintro σ H' ⟨v2, y0, y1, y2, rfl, e1, e2, e3, e4, e5, e6, e7⟩
      have fin : ∀ z0 z1 z2 : Int, 0 ≤ z0 → 0 ≤ z1 → z1 < 2147483647 → 0 ≤ z2 → ∀ o, o = HO.lst [.int z0, .int z1, .int z2, .ref a] → Kp H (upd H' b o) ∧ Bag (upd H' b o) b a ns := fun z0 z1 z2 q0 q1 q2 q3 o ho => by
        subst ho
        exact ⟨e7.upd (.inr ⟨_, hb, rfl⟩), z0, z1, z2, upd_same, q0, q1, q2, q3, by rw [upd_ne hab]; exact e6, gn⟩
      refine ⟨_, rfl, b, _, 0, _, rfl, rfl, SqL.of e1, rfl, _, _, rfl, rfl, _, rfl, iteD (fun c => ?_) (fun c => ?_)⟩
      · refine ⟨_, rfl, b, _, 0, _, rfl, rfl, SqL.of e1, rfl, _, rfl, _, _, rfl, rfl, (by show 0 < m; omega), ?_⟩
        refine ⟨_, rfl, b, _, 0, _, rfl, rfl, SqL.of e1, rfl, _, rfl, _, _, rfl, rfl, ⟨by omega, by omega⟩, _, rfl, b, _, 0, 0, rfl, rfl, e1, rfl, ?_⟩
        obtain ⟨f1, f2⟩ := fin (y0 / m) y1 y2 (Int.ediv_nonneg e2 (by omega)) e3 e4 e5 _ rfl
        exact ⟨_, rfl, k _ _ f1 f2 (Int.emod_nonneg _ (by omega)) (Int.emod_lt_of_pos _ (by omega))⟩
      · refine ⟨_, rfl, b, _, 1, _, rfl, rfl, SqL.of e1, rfl, _, _, rfl, rfl, _, _, rfl, rfl, .inl ⟨by omega, by omega⟩, _, _, rfl, rfl, (by show (0 : Int) < 1000000007; decide), ?_⟩
        have g1 := Int.emod_nonneg ((y1 + 1) * 39373) (show (1000000007 : Int) ≠ 0 by decide)
        have g2 := Int.emod_lt_of_pos ((y1 + 1) * 39373) (show (0 : Int) < 1000000007 by decide)
        generalize (y1 + 1) * 39373 % 1000000007 = f at g1 g2 ⊢
        refine ⟨_, rfl, _, rfl, _, _, rfl, rfl, .inl ⟨by omega, by omega⟩, _, _, rfl, rfl, (by show (0 : Int) < 998244353; decide), _, _, rfl, rfl, .inr ⟨by decide, by decide⟩, _, _, rfl, rfl, (by show (0 : Int) < 998244353; decide), ?_⟩
        refine ⟨_, rfl, _, _, rfl, rfl, _, rfl, iteD (fun c => absurd (show (1000000 : Int) < m from c) (by omega)) (fun c => ?_)⟩
        refine ⟨_, rfl, _, _, rfl, rfl, ⟨by decide, by decide⟩, _, rfl, _, _, rfl, rfl, (by show 0 < m; omega), ?_⟩
        exact k _ _ e7 ⟨y0, y1, y2, e1, e2, e3, e4, e5, e6, gn⟩ (Int.emod_nonneg _ (by omega)) (Int.emod_lt_of_pos _ (by omega))
    · refine ⟨_, rfl, b, _, 0, _, rfl, rfl, SqL.of hb, rfl, rfl, _, rfl, iteD (fun c => ?_) (fun c => ?_)⟩
      · refine seq_by (fun σ H' => σ = [some (.ref b), some (.int m), some (.int 0), none, none, none] ∧ H' = H) ?_ (fun go2 => go2 _ _ ⟨rfl, rfl⟩)
        rintro σ H' ⟨rfl, rfl⟩
        refine seq_by (fun σ H2 => ∃ cell : Int, 0 ≤ cell ∧ σ = [some (.ref b), some (.int m), some (.int cell), none, none, none] ∧ H2 = H') ?_ (fun go2 => ?_)
        · rintro σ H2 ⟨cell, hc, rfl, rfl⟩
          refine ⟨_, rfl, b, _, 2, _, rfl, rfl, SqL.of hb, by decide, rfl, _, _, rfl, rfl, b, _, 2, 2, rfl, rfl, hb, rfl, ?_⟩
          dsimp only
          refine seq_by (fun σ H3 => ∃ y0 : Int, 0 ≤ y0 ∧ σ = [some (.ref b), some (.int m), some (.int cell), none, none, none] ∧ H3 b = some (.lst [.int y0, .int x1, .int (x2 + 1), .ref a]) ∧ H3 a = some (.lst (ns.map V.int)) ∧ Kp H2 H3) ?_ (fun go2 => ?_)
          · rintro σ H3 ⟨y0, hy, rfl, f1, f2, f3⟩
            refine ⟨_, rfl, b, _, 1, _, rfl, rfl, SqL.of f1, rfl, _, _, rfl, rfl, .inr ⟨by decide, by decide⟩, _, rfl, _, _, rfl, rfl, (by show (0 : Int) < 2147483647; decide), _, _, rfl, rfl, _, rfl, b, _, 2, _, rfl, rfl, SqL.of f1, rfl, _, _, rfl, rfl, .inl ⟨by decide, by decide⟩, _, _, rfl, rfl, _, _, rfl, rfl, (by show (0 : Int) < 2147483647; decide), ?_⟩
            refine ⟨_, rfl, b, _, 1, 1, rfl, rfl, f1, rfl, ?_⟩
            exact go _ _ ⟨some (.int cell), y0, _, x2 + 1, rfl, upd_same, hy, Int.emod_nonneg _ (by decide), Int.emod_lt_of_pos _ (by decide), by omega, by rw [upd_ne hab]; exact f2, f3.upd (.inr ⟨_, hb, rfl⟩)⟩
          · refine ⟨_, rfl, _, _, rfl, rfl, _, rfl, iteD (fun c => ?_) (fun c => ?_)⟩
            · refine ⟨_, rfl, _, rfl, b, _, 0, 0, rfl, rfl, upd_same, rfl, ?_⟩
              refine go2 _ _ ⟨cell, hc, rfl, upd_same, ?_, ?_⟩
              · rw [upd_ne hab, upd_ne hab]; exact ha
              · exact ((Kp.refl _).upd (.inr ⟨_, hb, rfl⟩)).upd (.inr ⟨_, hb, rfl⟩)
            · refine go2 _ _ ⟨x0, g0, rfl, upd_same, ?_, ?_⟩
              · rw [upd_ne hab]; exact ha
              · exact (Kp.refl _).upd (.inr ⟨_, hb, rfl⟩)
        · refine ⟨_, rfl, b, _, 2, _, rfl, rfl, SqL.of hb, rfl, _, rfl, b, _, 3, _, rfl, rfl, SqL.of hb, rfl, a, _, rfl, .inl (SqL.of ha), _, _, rfl, rfl, _, rfl, iteD (fun c => ?_) (fun c => ?_)⟩
          · rw [List.length_map] at c
            have hx : x2.toNat < ns.length := by omega
            have hg : ns[x2.toNat]? = some ns[x2.toNat] := List.getElem?_eq_getElem hx
            refine ⟨_, rfl, b, _, 3, _, rfl, rfl, SqL.of hb, rfl, _, rfl, b, _, 2, _, rfl, rfl, SqL.of hb, rfl, a, _, x2, .int ns[x2.toNat], rfl, rfl, SqL.of ha, ?_, ?_⟩
            · exact atI_int g2 (get_map hg)
            · exact go2 _ _ ⟨_, gn _ (List.getElem_mem hx), rfl, rfl⟩
          · exact go2 _ _ ⟨0, Int.le_refl _, rfl, rfl⟩
      · exact go _ _ ⟨none, x0, x1, x2, rfl, hb, g0, g1, g1', g2, ha, Kp.refl _⟩
end
end L2.K83

set_option Elab.async false
set_option linter.all false
set_option maxRecDepth 100000
set_option maxHeartbeats 1000000
/-! Names, spans, rests. -/
namespace L2.K83
open PySem PySem.Spec PyProof.Rows L2.KB
section
variable {P : Program} {w : World} {K : PySem.W.Frag} {mg : Str → Option Value} {base : Heap} {C : Addr} {fT : Addr} {fdT : FuncData}
-- _law_names: slots 0 _law_bag_here, 1 _law_many, 2 _law_letters, 3 _law_turn, 4 _law_tail, 5 _law_way, 6 _law_found, 7 _law_k, 8 _law_head
abbrev S__law_names : Stmt := (topS 35)
abbrev N__law_names : List Str := ["_law_bag_here", "_law_many", "_law_letters", "_law_turn", "_law_tail", "_law_way", "_law_found", "_law_k", "_law_head"]
theorem sc__law_names : FnScope N__law_names ["_law_bag_here", "_law_many"] (defScope S__law_names) := ⟨rfl, rfl, rfl, by decide +kernel, rfl, by decide +kernel, by decide +kernel⟩
theorem letter_at {v : Int} (h0 : 0 ≤ v) (h1 : v < 26) : ∃ c, atI (PySem.Str.ofString "abcdefghijklmnopqrstuvwxyz").cps.toList v = some c := by
  have hl : (PySem.Str.ofString "abcdefghijklmnopqrstuvwxyz").cps.toList.length = 26 := by decide +kernel
  have hx : v.toNat < (PySem.Str.ofString "abcdefghijklmnopqrstuvwxyz").cps.toList.length := by omega
  exact ⟨_, atI_int h0 (List.getElem?_eq_getElem hx)⟩
theorem letters_len : (PySem.Str.ofString "abcdefghijklmnopqrstuvwxyz").length ≤ sizeLine := by
  have : (PySem.Str.ofString "abcdefghijklmnopqrstuvwxyz").length = 26 := by decide +kernel
  rw [this]; decide
theorem add_len (x y : Str) : (x ++ y).length = x.length + y.length := by
  show (x.cps ++ y.cps).size = x.cps.size + y.cps.size
  exact Array.size_append
def sp_names : Sp := fun vs H Q _ => ∃ (b a : Addr) (ns : List Int) (m : Int), vs = [.ref b, .int m] ∧ Bag H b a ns ∧ 0 ≤ m ∧ m ≤ 40 ∧
  ∀ (H' : Hp) (p : Addr) (xs : List Str), Kp H H' → Bag H' b a ns → H' p = some (.lst (xs.map V.str)) → (xs.length : Int) = m → Q (.ref p) H'
set_option maxHeartbeats 4000000 in
theorem ok_names {f : Addr} {fd : FuncData} (F : Fun K "_law_names" "_law_names" S__law_names f fd) (T : Txt K mg C) (D_law_take : Fd P w K mg base CX0 1 "_law_take" fT fdT ["_law_bag_here", "_law_many"] sp_take) :
    FnOk P w K mg base CX0 2 f fd ["_law_bag_here", "_law_many"] sp_names := by
  refine F.ok sc__law_names (fun vs H Q E h => ?_) (fun cdv A outer s H vs Q E hr h => ?_)
  · obtain ⟨b, a, ns, m, rfl, _⟩ := h
    rfl
  · obtain ⟨b, a, ns, m, rfl, B, h1, h2, k⟩ := h
    refine ⟨_, (pss_cons (ps_set (i := 2) sc__law_names.nd rfl (Or.inl rfl) pe_str)
      (pss_cons (ps_set (i := 3) sc__law_names.nd rfl (Or.inl rfl) (pe_call D_law_take.ok (hr.mono (by decide)) rfl D_law_take.m D_law_take.kp D_law_take.b .nil pass0 (pa_cons (pv 0) (pa_cons pe_int pa_nil))))
      (pss_cons (ps_set (i := 4) sc__law_names.nd rfl (Or.inl rfl) (pe_op op_mulS (pe_ix ix_str (pv 2) (pe_call D_law_take.ok (hr.mono (by decide)) rfl D_law_take.m D_law_take.kp D_law_take.b .nil pass0 (pa_cons (pv 0) (pa_cons pe_int pa_nil))) (fun _ _ => rfl)) (pe_call D_law_take.ok (hr.mono (by decide)) rfl D_law_take.m D_law_take.kp D_law_take.b .nil pass0 (pa_cons (pv 0) (pa_cons pe_int pa_nil)))))
      (pss_cons (ps_set (i := 5) sc__law_names.nd rfl (Or.inl rfl) (pe_call D_law_take.ok (hr.mono (by decide)) rfl D_law_take.m D_law_take.kp D_law_take.b .nil pass0 (pa_cons (pv 0) (pa_cons pe_int pa_nil))))
      (pss_cons (ps_set (i := 6) sc__law_names.nd rfl (Or.inl rfl) (pe_lst pa_nil))
      (pss_cons (ps_for PassesOwn.never rfl (pi_range1 rfl T.b_range (pa_cons (pv 1) pa_nil)) (pg_name (i := 7) sc__law_names.nd rfl (Or.inl rfl))
        (pss_cons (ps_set (i := 8) sc__law_names.nd rfl (Or.inl rfl) (pe_ix ix_str (pv 2) (pe_op op_mod (pe_op op_add (pv 3) (pv 7)) pe_int) (fun _ _ => rfl)))
        (pss_one (ps_expr (pe_bm PySem.F.plainAttrs_list PySem.F.slot_list_append PySem.F.type_list_append mt_append (pv 6) (pa_cons (pe_op op_add_str (pe_ix ix_list (pe_lst (pa_cons (pe_op op_add_str (pv 8) (pv 4)) (pa_cons (pe_op op_add_str (pv 4) (pv 8)) pa_nil))) (pv 5) (fun _ _ => rfl)) (pe_op op_mulS pe_str (pe_op op_fdiv (pv 7) pe_int))) pa_nil))))))
      (pss_one (ps_ret (pv 6))))))))), ?_⟩
    refine ⟨_, rfl, b, a, ns, 26, rfl, B, by decide, by decide, fun H1 turn k1 B1 t1 t2 => ?_⟩
    refine ⟨_, rfl, _, rfl, b, a, ns, 26, rfl, B1, by decide, by decide, fun H2 li k2 B2 l1 l2 => ?_⟩
    obtain ⟨c, hc⟩ := letter_at l1 l2
    refine ⟨_, li, c, rfl, rfl, letters_len, hc, _, rfl, b, a, ns, 7, rfl, B2, by decide, by decide, fun H3 r k3 B3 r1 r2 => ?_⟩
    refine ⟨_, r, rfl, rfl, r1, by omega, (by show 1 ≤ 100; decide), fun tail ht => ?_⟩
    refine ⟨_, rfl, b, a, ns, 2, rfl, B3, by decide, by decide, fun H4 way k4 B4 w1 w2 => ?_⟩
    refine ⟨(by show 0 ≤ sizeLine; decide), fun p hp => ?_⟩
    have k0 : Kp H H4 := ((k1.trans k2).trans k3).trans k4
    have G0 : BK b a ns H H4 := ⟨B, k0, B4⟩
    have p0 := k0.free hp
    refine ⟨_, rfl, m, rfl, by omega, by omega, for_range (lo := 0) (n := m.toNat) (fun i σ H' => ∃ (xs : List Str) (v7 v8 : Option V), σ = [some (.ref b), some (.int m), some (.str (PySem.Str.ofString "abcdefghijklmnopqrstuvwxyz")), some (.int turn), some (.str tail), some (.int way), some (.ref p), v7, v8] ∧ BK b a ns H H' ∧ H' p = some (.lst (xs.map V.str)) ∧ xs.length = i) ?_ ?_ ?_⟩
    · exact ⟨[], none, none, rfl, G0.upd p0, upd_same, rfl⟩
    · rintro i σ H' hi ⟨xs, v7, v8, rfl, G, e1, e2⟩
      obtain ⟨c2, hc2⟩ := letter_at (v := (turn + (0 + (i : Int))) % 26) (Int.emod_nonneg _ (by decide)) (Int.emod_lt_of_pos _ (by decide))
      refine ⟨_, rfl, _, rfl, _, rfl, _, _, rfl, rfl, _, _, rfl, rfl, (by show (0 : Int) < 26; decide), _, _, c2, rfl, rfl, letters_len, hc2, ?_⟩
      have lh : (⟨#[c2]⟩ : Str).length = 1 := rfl
      have big : 10000 ≤ sizeLine := by rw [sizeLine_eq]; decide
      refine ⟨_, rfl, .inl ⟨rfl, _, SqL.of e1⟩, _, rfl, _, rfl, _, _, rfl, rfl, by omega, _, rfl, _, rfl, _, _, rfl, rfl, by omega, (by show 2 ≤ sizeLine; decide), fun q hq => ?_⟩
      obtain ⟨z, hz, lz⟩ : ∃ z : Str, atI [V.str (⟨#[c2]⟩ ++ tail), V.str (tail ++ ⟨#[c2]⟩)] way = some (.str z) ∧ z.length ≤ 1001 := by
        have : way = 0 ∨ way = 1 := by omega
        rcases this with rfl | rfl
        · exact ⟨_, rfl, by rw [add_len]; omega⟩
        · exact ⟨_, rfl, by rw [add_len]; omega⟩
      have i0 : (0 + (i : Int)) / 26 ≤ 10 ∧ 0 ≤ (0 + (i : Int)) / 26 := by omega
      refine ⟨_, rfl, q, _, way, _, rfl, rfl, SqL.of upd_same, hz, _, rfl, _, _, rfl, rfl, ⟨by decide, by decide⟩, _, _, rfl, rfl, i0.2, i0.1, (by show 1 ≤ 100; decide), fun y hy => ?_⟩
      have q0 := G.kp.free hq
      have npq : p ≠ q := ne_of_none e1 hq
      refine ⟨_, _, rfl, rfl, by omega, p, _, _, rfl, rfl, (by rw [upd_ne npq]; exact e1), ?_, ?_⟩
      · rw [List.length_map]; exact small1000 (by omega)
      · refine ⟨xs ++ [z ++ y], _, _, rfl, (G.upd q0).upd p0, ?_, by rw [List.length_append, e2]; rfl⟩
        rw [upd_same, List.map_append]; rfl
    · rintro σ H' ⟨xs, v7, v8, rfl, G, e1, e2⟩
      exact ⟨_, rfl, k H' p xs G.kp G.bg e1 (by omega)⟩
-- _law_spans: slots 0 _law_bag_here, 1 _law_many, 2 _law_top, 3 _law_way, 4 _law_one, 5 _law_found, 6 _law_k, 7 _law_some
abbrev S__law_spans : Stmt := (topS 36)
abbrev N__law_spans : List Str := ["_law_bag_here", "_law_many", "_law_top", "_law_way", "_law_one", "_law_found", "_law_k", "_law_some"]
theorem sc__law_spans : FnScope N__law_spans ["_law_bag_here", "_law_many", "_law_top"] (defScope S__law_spans) := ⟨rfl, rfl, rfl, by decide +kernel, rfl, by decide +kernel, by decide +kernel⟩
/-- a small list, by a place within -/
theorem pick {xs : List Int} {i : Int} (h0 : 0 ≤ i) (h1 : i < xs.length) : ∃ x, x ∈ xs ∧ atI (xs.map V.int) i = some (.int x) := by
  have hx : i.toNat < xs.length := by omega
  exact ⟨xs[i.toNat], List.getElem_mem hx, atI_int h0 (get_map (List.getElem?_eq_getElem hx))⟩
theorem min_of {x y : Int} (h : 1 ≤ x) (k : 1 ≤ y) : 1 ≤ (if y < x then y else x) ∧ (if y < x then y else x) ≤ x := by split <;> omega
def sp_ints : Sp := fun vs H Q _ => ∃ (b a : Addr) (ns : List Int) (m top : Int), vs = [.ref b, .int m, .int top] ∧ Bag H b a ns ∧ 0 ≤ m ∧ m ≤ 40 ∧ 1 ≤ top ∧ top ≤ 100 ∧
  ∀ (H' : Hp) (p : Addr) (xs : List Int), Kp H H' → Bag H' b a ns → H' p = some (.lst (xs.map V.int)) → (xs.length : Int) = m → (∀ x ∈ xs, 1 ≤ x ∧ x ≤ 1000) → Q (.ref p) H'
theorem all_snoc {P : Int → Prop} {xs : List Int} {y : Int} (h : ∀ x ∈ xs, P x) (k : P y) : ∀ x ∈ xs ++ [y], P x := fun x hx => by
  rcases List.mem_append.mp hx with z | z
  · exact h x z
  · have : x = y := List.mem_singleton.mp z
    subst this; exact k
set_option maxHeartbeats 4000000 in
theorem ok_spans {f : Addr} {fd : FuncData} (F : Fun K "_law_spans" "_law_spans" S__law_spans f fd) (T : Txt K mg C) (D_law_take : Fd P w K mg base CX0 1 "_law_take" fT fdT ["_law_bag_here", "_law_many"] sp_take) :
    FnOk P w K mg base CX0 2 f fd ["_law_bag_here", "_law_many", "_law_top"] sp_ints := by
  refine F.ok sc__law_spans (fun vs H Q E h => ?_) (fun cdv A outer s H vs Q E hr h => ?_)
  · obtain ⟨b, a, ns, m, top, rfl, _⟩ := h
    rfl
  · obtain ⟨b, a, ns, m, top, rfl, B, h1, h2, h3, h4, k⟩ := h
    refine ⟨_, (pss_cons (ps_set (i := 3) sc__law_spans.nd rfl (Or.inl rfl) (pe_call D_law_take.ok (hr.mono (by decide)) rfl D_law_take.m D_law_take.kp D_law_take.b .nil pass0 (pa_cons (pv 0) (pa_cons pe_int pa_nil))))
      (pss_cons (ps_if (pt_cmpR op_lt (pv 3) pe_int (nomark _)) (pss_one (ps_ret (pe_lc (own := [("_law_k", 6)]) (g := (gName 6)) (tt := tYes) rfl sc__law_spans.nd (pi_range1 rfl T.b_range (pa_cons (pv 1) pa_nil)) (blkOk_by (own := [("_law_k", 6)]) (N := N__law_spans) (sc := defScope S__law_spans) (by decide +kernel)) (fun _ _ _ _ _ => (pg_name (i := 6) sc__law_spans.nd rfl (Or.inl rfl))) (fun _ _ _ _ _ => pts_nil) (fun _ _ _ _ _ => (pe_op op_add (pv 6) pe_int))))) pss_nil)
      (pss_cons (ps_set (i := 4) sc__law_spans.nd rfl (Or.inl rfl) (pe_op op_add pe_int (pe_call D_law_take.ok (hr.mono (by decide)) rfl D_law_take.m D_law_take.kp D_law_take.b .nil pass0 (pa_cons (pv 0) (pa_cons (pv 2) pa_nil)))))
      (pss_cons (ps_set (i := 5) sc__law_spans.nd rfl (Or.inl rfl) (pe_lst pa_nil))
      (pss_cons (ps_for PassesOwn.never rfl (pi_range1 rfl T.b_range (pa_cons (pv 1) pa_nil)) (pg_name (i := 6) sc__law_spans.nd rfl (Or.inl rfl))
        (pss_cons (ps_set (i := 7) sc__law_spans.nd rfl (Or.inl rfl) (pe_lst (pa_cons (pe_op op_add pe_int (pe_call D_law_take.ok (hr.mono (by decide)) rfl D_law_take.m D_law_take.kp D_law_take.b .nil pass0 (pa_cons (pv 0) (pa_cons (pe_callB (call_min2 rfl) (by rfl) T.b_min (by decide +kernel) (pa_cons pe_int (pa_cons (pv 2) pa_nil))) pa_nil)))) (pa_cons (pe_op op_add pe_int (pe_call D_law_take.ok (hr.mono (by decide)) rfl D_law_take.m D_law_take.kp D_law_take.b .nil pass0 (pa_cons (pv 0) (pa_cons (pv 2) pa_nil)))) (pa_cons (pv 4) (pa_cons (pe_ix ix_list (pe_lst (pa_cons pe_int (pa_cons (pv 2) pa_nil))) (pe_call D_law_take.ok (hr.mono (by decide)) rfl D_law_take.m D_law_take.kp D_law_take.b .nil pass0 (pa_cons (pv 0) (pa_cons pe_int pa_nil))) (fun _ _ => rfl)) pa_nil))))))
        (pss_one (ps_expr (pe_bm PySem.F.plainAttrs_list PySem.F.slot_list_append PySem.F.type_list_append mt_append (pv 5) (pa_cons (pe_ix ix_list (pv 7) (pe_op op_sub (pv 3) pe_int) (fun _ _ => rfl)) pa_nil))))))
      (pss_one (ps_ret (pv 5)))))))), ?_⟩
    refine ⟨_, rfl, b, a, ns, 6, rfl, B, by decide, by decide, fun H1 way k1 B1 w1 w2 => ?_⟩
    refine ⟨_, rfl, _, _, rfl, rfl, _, rfl, iteD (fun c => ?_) (fun c => ?_)⟩
    · refine ⟨_, rfl, m, rfl, by omega, by omega, fun D hD => lc_range (lo := 0) (n := m.toNat) (fun i H' => ∃ xs : List Int, BK b a ns H H' ∧ H' D = some (.lst (xs.map V.int)) ∧ xs.length = i ∧ ∀ x ∈ xs, 1 ≤ x ∧ x ≤ 1000) ?_ ?_ ?_⟩
      · exact ⟨[], BK.new ⟨B, k1, B1⟩ hD, upd_same, rfl, fun x hx => by cases hx⟩
      · rintro i H' hi ⟨xs, G, e1, e2, e3⟩
        refine ⟨rfl, _, rfl, _, _, rfl, rfl, _, e1, ?_, xs ++ [0 + (i : Int) + 1], G.upd (k1.free hD), ?_, ?_, all_snoc e3 (by omega)⟩
        · rw [List.length_map]; exact small1000 (by omega)
        · rw [upd_same, List.map_append]; rfl
        · rw [List.length_append, e2]; rfl
      · rintro H' ⟨xs, G, e1, e2, e3⟩
        exact k H' D xs G.kp G.bg e1 (by omega) e3
    · have c : ¬ way < 2 := c
      refine ⟨_, rfl, _, rfl, b, a, ns, top, rfl, B1, h3, by omega, fun H2 one k2 B2 o1 o2 => ⟨_, _, rfl, rfl, ?_⟩⟩
      refine ⟨(by show 0 ≤ sizeLine; decide), fun p hp => ?_⟩
      have k0 : Kp H H2 := k1.trans k2
      have p0 := k0.free hp
      refine ⟨_, rfl, m, rfl, by omega, by omega, for_range (lo := 0) (n := m.toNat) (fun i σ H' => ∃ (xs : List Int) (v6 v7 : Option V), σ = [some (.ref b), some (.int m), some (.int top), some (.int way), some (.int (1 + one)), some (.ref p), v6, v7] ∧ BK b a ns H H' ∧ H' p = some (.lst (xs.map V.int)) ∧ xs.length = i ∧ ∀ x ∈ xs, 1 ≤ x ∧ x ≤ 1000) ?_ ?_ ?_⟩
      · exact ⟨[], none, none, rfl, BK.upd ⟨B, k0, B2⟩ p0, upd_same, rfl, fun x hx => by cases hx⟩
      · rintro i σ H' hi ⟨xs, v6, v7, rfl, G, e1, e2, e3⟩
        have hm := min_of (x := 4) (y := top) (by decide) h3
        refine ⟨_, rfl, _, rfl, 4, top, rfl, b, a, ns, _, rfl, G.bg, hm.1, by omega, fun H3 v1 k3 B3 a1 a2 => ⟨_, _, rfl, rfl, ?_⟩⟩
        refine ⟨_, rfl, _, rfl, b, a, ns, top, rfl, B3, h3, by omega, fun H4 v2 k4 B4 b1 b2 => ⟨_, _, rfl, rfl, _, rfl, _, rfl, (by show 2 ≤ sizeLine; decide), fun q hq => ?_⟩⟩
        have G4 : BK b a ns H H4 := (G.step k3 B3).step k4 B4
        have G5 := G4.new (o := .lst [.int 1, .int top]) hq
        refine ⟨_, rfl, b, a, ns, 2, rfl, G5.bg, by decide, by decide, fun H6 v3 k6 B6 d1 d2 => ?_⟩
        obtain ⟨y, hy, ey⟩ := pick (xs := [1, top]) d1 d2
        have hy' : 1 ≤ y ∧ y ≤ 1000 := by
          simp at hy
          omega
        have G6 := G5.step k6 B6
        refine ⟨q, _, v3, _, rfl, rfl, SqL.of (k6.get upd_same), ey, (by show 4 ≤ sizeLine; decide), fun l hl => ?_⟩
        have G7 := G6.new (o := .lst [.int (1 + v1), .int (1 + v2), .int (1 + one), .int y]) hl
        obtain ⟨z, hz, ez⟩ := pick (xs := [1 + v1, 1 + v2, 1 + one, y]) (i := way - 2) (by omega) (by show way - 2 < 4; omega)
        have hz' : 1 ≤ z ∧ z ≤ 1000 := by
          simp at hz
          omega
        have ep : H6 p = some (.lst (xs.map V.int)) := k6.get (by rw [upd_ne (ne_of_none (k4.get (k3.get e1 (ints_nobag _)) (ints_nobag _)) hq)]; exact k4.get (k3.get e1 (ints_nobag _)) (ints_nobag _)) (ints_nobag _)
        have ep' : (upd H6 l (.lst [.int (1 + v1), .int (1 + v2), .int (1 + one), .int y])) p = some (.lst (xs.map V.int)) := by rw [upd_ne (ne_of_none ep hl)]; exact ep
        refine ⟨_, rfl, .inl ⟨rfl, _, SqL.of ep'⟩, _, rfl, _, rfl, _, _, rfl, rfl, l, _, _, _, rfl, rfl, SqL.of upd_same, ez, p, _, _, rfl, rfl, ep', ?_, ?_⟩
        · rw [List.length_map]; exact small1000 (by omega)
        · refine ⟨xs ++ [z], _, _, rfl, G7.upd p0, ?_, ?_, all_snoc e3 hz'⟩
          · rw [upd_same, List.map_append]; rfl
          · rw [List.length_append, e2]; rfl
      · rintro σ H' ⟨xs, v6, v7, rfl, G, e1, e2, e3⟩
        exact ⟨_, rfl, k H' p xs G.kp G.bg e1 (by omega) e3⟩
-- _law_rests: slots 0 _law_bag_here, 1 _law_many, 2 _law_top, 3 _law_way, 4 _law_one, 5 _law_other, 6 _law_found, 7 _law_k, 8 _law_some
abbrev S__law_rests : Stmt := (topS 37)
abbrev N__law_rests : List Str := ["_law_bag_here", "_law_many", "_law_top", "_law_way", "_law_one", "_law_other", "_law_found", "_law_k", "_law_some"]
theorem sc__law_rests : FnScope N__law_rests ["_law_bag_here", "_law_many", "_law_top"] (defScope S__law_rests) := ⟨rfl, rfl, rfl, by decide +kernel, rfl, by decide +kernel, by decide +kernel⟩
set_option maxHeartbeats 4000000 in
theorem ok_rests {f : Addr} {fd : FuncData} (F : Fun K "_law_rests" "_law_rests" S__law_rests f fd) (T : Txt K mg C) (D_law_take : Fd P w K mg base CX0 1 "_law_take" fT fdT ["_law_bag_here", "_law_many"] sp_take) :
    FnOk P w K mg base CX0 2 f fd ["_law_bag_here", "_law_many", "_law_top"] sp_ints := by
  refine F.ok sc__law_rests (fun vs H Q E h => ?_) (fun cdv A outer s H vs Q E hr h => ?_)
  · obtain ⟨b, a, ns, m, top, rfl, _⟩ := h
    rfl
  · obtain ⟨b, a, ns, m, top, rfl, B, h1, h2, h3, h4, k⟩ := h
    refine ⟨_, (pss_cons (ps_set (i := 3) sc__law_rests.nd rfl (Or.inl rfl) (pe_call D_law_take.ok (hr.mono (by decide)) rfl D_law_take.m D_law_take.kp D_law_take.b .nil pass0 (pa_cons (pv 0) (pa_cons pe_int pa_nil))))
      (pss_cons (ps_par (i := 4) (j := 5) (by rfl) sc__law_rests.nd rfl rfl (by decide) rfl rfl (pa_cons (pe_op op_add pe_int (pe_call D_law_take.ok (hr.mono (by decide)) rfl D_law_take.m D_law_take.kp D_law_take.b .nil pass0 (pa_cons (pv 0) (pa_cons (pv 2) pa_nil)))) (pa_cons (pe_op op_add pe_int (pe_call D_law_take.ok (hr.mono (by decide)) rfl D_law_take.m D_law_take.kp D_law_take.b .nil pass0 (pa_cons (pv 0) (pa_cons (pv 2) pa_nil)))) pa_nil)) (by rfl))
      (pss_cons (ps_set (i := 6) sc__law_rests.nd rfl (Or.inl rfl) (pe_lst pa_nil))
      (pss_cons (ps_for PassesOwn.never rfl (pi_range1 rfl T.b_range (pa_cons (pv 1) pa_nil)) (pg_name (i := 7) sc__law_rests.nd rfl (Or.inl rfl))
        (pss_cons (ps_set (i := 8) sc__law_rests.nd rfl (Or.inl rfl) (pe_lst (pa_cons (pe_op op_add pe_int (pe_call D_law_take.ok (hr.mono (by decide)) rfl D_law_take.m D_law_take.kp D_law_take.b .nil pass0 (pa_cons (pv 0) (pa_cons (pv 2) pa_nil)))) (pa_cons (pe_op op_add pe_int (pe_call D_law_take.ok (hr.mono (by decide)) rfl D_law_take.m D_law_take.kp D_law_take.b .nil pass0 (pa_cons (pv 0) (pa_cons (pe_callB (call_min2 rfl) (by rfl) T.b_min (by decide +kernel) (pa_cons pe_int (pa_cons (pv 2) pa_nil))) pa_nil)))) (pa_cons (pv 4) (pa_cons (pe_ix ix_list (pe_lst (pa_cons (pv 4) (pa_cons (pv 5) pa_nil))) (pe_call D_law_take.ok (hr.mono (by decide)) rfl D_law_take.m D_law_take.kp D_law_take.b .nil pass0 (pa_cons (pv 0) (pa_cons pe_int pa_nil))) (fun _ _ => rfl)) pa_nil))))))
        (pss_one (ps_expr (pe_bm PySem.F.plainAttrs_list PySem.F.slot_list_append PySem.F.type_list_append mt_append (pv 6) (pa_cons (pe_ix ix_list (pv 8) (pv 3) (fun _ _ => rfl)) pa_nil))))))
      (pss_one (ps_ret (pv 6))))))), ?_⟩
    refine ⟨_, rfl, b, a, ns, 4, rfl, B, by decide, by decide, fun H1 way k1 B1 w1 w2 => ?_⟩
    refine ⟨_, rfl, _, rfl, b, a, ns, top, rfl, B1, h3, by omega, fun H2 one k2 B2 o1 o2 => ⟨_, _, rfl, rfl, _, rfl, _, rfl, b, a, ns, top, rfl, B2, h3, by omega, fun H2' other k2' B2' o1' o2' => ⟨_, _, rfl, rfl, _, _, rfl, ?_⟩⟩⟩
    refine ⟨(by show 0 ≤ sizeLine; decide), fun p hp => ?_⟩
    have k0 : Kp H H2' := (k1.trans k2).trans k2'
    have p0 := k0.free hp
    refine ⟨_, rfl, m, rfl, by omega, by omega, for_range (lo := 0) (n := m.toNat) (fun i σ H' => ∃ (xs : List Int) (v6 v7 : Option V), σ = [some (.ref b), some (.int m), some (.int top), some (.int way), some (.int (1 + one)), some (.int (1 + other)), some (.ref p), v6, v7] ∧ BK b a ns H H' ∧ H' p = some (.lst (xs.map V.int)) ∧ xs.length = i ∧ ∀ x ∈ xs, 1 ≤ x ∧ x ≤ 1000) ?_ ?_ ?_⟩
    · exact ⟨[], none, none, rfl, BK.upd ⟨B, k0, B2'⟩ p0, upd_same, rfl, fun x hx => by cases hx⟩
    · rintro i σ H' hi ⟨xs, v6, v7, rfl, G, e1, e2, e3⟩
      have hm := min_of (x := 3) (y := top) (by decide) h3
      refine ⟨_, rfl, _, rfl, b, a, ns, top, rfl, G.bg, h3, by omega, fun H4 v2 k4 B4 b1 b2 => ⟨_, _, rfl, rfl, ?_⟩⟩
      refine ⟨_, rfl, _, rfl, 3, top, rfl, b, a, ns, _, rfl, B4, hm.1, by omega, fun H3 v1 k3 B3 a1 a2 => ⟨_, _, rfl, rfl, ?_⟩⟩
      refine ⟨_, rfl, _, rfl, _, rfl, (by show 2 ≤ sizeLine; decide), fun q hq => ?_⟩
      have G4 : BK b a ns H H3 := (G.step k4 B4).step k3 B3
      have G5 := G4.new (o := .lst [.int (1 + one), .int (1 + other)]) hq
      refine ⟨_, rfl, b, a, ns, 2, rfl, G5.bg, by decide, by decide, fun H6 v3 k6 B6 d1 d2 => ?_⟩
      obtain ⟨y, hy, ey⟩ := pick (xs := [1 + one, 1 + other]) d1 d2
      have hy' : 1 ≤ y ∧ y ≤ 1000 := by
        simp at hy
        omega
      have G6 := G5.step k6 B6
      refine ⟨q, _, v3, _, rfl, rfl, SqL.of (k6.get upd_same), ey, (by show 4 ≤ sizeLine; decide), fun l hl => ?_⟩
      have G7 := G6.new (o := .lst [.int (1 + v2), .int (1 + v1), .int (1 + one), .int y]) hl
      obtain ⟨z, hz, ez⟩ := pick (xs := [1 + v2, 1 + v1, 1 + one, y]) (i := way) w1 w2
      have hz' : 1 ≤ z ∧ z ≤ 1000 := by
        simp at hz
        omega
      have ep3 : H3 p = some (.lst (xs.map V.int)) := k3.get (k4.get e1 (ints_nobag _)) (ints_nobag _)
      have ep : H6 p = some (.lst (xs.map V.int)) := k6.get (by rw [upd_ne (ne_of_none ep3 hq)]; exact ep3) (ints_nobag _)
      have ep' : (upd H6 l (.lst [.int (1 + v2), .int (1 + v1), .int (1 + one), .int y])) p = some (.lst (xs.map V.int)) := by rw [upd_ne (ne_of_none ep hl)]; exact ep
      refine ⟨_, rfl, .inl ⟨rfl, _, SqL.of ep'⟩, _, rfl, _, rfl, l, _, _, _, rfl, rfl, SqL.of upd_same, ez, p, _, _, rfl, rfl, ep', ?_, ?_⟩
      · rw [List.length_map]; exact small1000 (by omega)
      · refine ⟨xs ++ [z], _, _, rfl, G7.upd p0, ?_, ?_, all_snoc e3 hz'⟩
        · rw [upd_same, List.map_append]; rfl
        · rw [List.length_append, e2]; rfl
    · rintro σ H' ⟨xs, v6, v7, rfl, G, e1, e2, e3⟩
      exact ⟨_, rfl, k H' p xs G.kp G.bg e1 (by omega) e3⟩
end
end L2.K83

set_option Elab.async false
set_option linter.all false
set_option maxRecDepth 100000
set_option maxHeartbeats 4000000
/-! A hall, another book. -/
namespace L2.K83
open PySem PySem.Spec PyProof.Rows L2.KB
section
variable {P : Program} {w : World} {K : PySem.W.Frag} {mg : Str → Option Value} {base : Heap} {C : Addr} {fT fN fS fR : Addr} {fdT fdN fdS fdR : FuncData}
-- _law_hall: slots 0 _law_bag_here, 1 _law_many, 2 _law_top, 3 _law_longest, 4 _law_size, 5 _law_spans_here, 6 _law_there
abbrev S__law_hall : Stmt := (topS 38)
abbrev N__law_hall : List Str := ["_law_bag_here", "_law_many", "_law_top", "_law_longest", "_law_size", "_law_spans_here", "_law_there"]
theorem sc__law_hall : FnScope N__law_hall ["_law_bag_here", "_law_many", "_law_top", "_law_longest"] (defScope S__law_hall) := ⟨rfl, rfl, rfl, by decide +kernel, rfl, by decide +kernel, by decide +kernel⟩
/-- lengths of a book as they are drawn -/
def Lens (xs : List Int) : Prop := 1 ≤ xs.length ∧ xs.length ≤ 40 ∧ ∀ x ∈ xs, 1 ≤ x ∧ x ≤ 1000
/-- rests by name as they are drawn -/
def Rsts (zs : St0) : Prop := (nms zs).Nodup ∧ zs.length ≤ 40 ∧ ∀ z ∈ zs, 1 ≤ z.2 ∧ z.2 ≤ 1000
def sp_hall : Sp := fun vs H Q _ => ∃ (b a : Addr) (ns : List Int) (m top lon : Int), vs = [.ref b, .int m, .int top, .int lon] ∧ Bag H b a ns ∧ 1 ≤ m ∧ m ≤ 30 ∧ 1 ≤ top ∧ top ≤ 100 ∧ 1 ≤ lon ∧ lon ≤ 100 ∧
  ∀ (H' : Hp) (t p d : Addr) (xs : List Int) (zs : St0), Kp H H' → Bag H' b a ns → H' t = some (.tup [.ref p, .ref d]) → H' p = some (.lst (xs.map V.int)) → H' d = some (.dK (kvS zs)) → Lens xs → xs.length ≤ 30 → Rsts zs → zs.length ≤ xs.length → Q (.ref t) H'
theorem ok_hall {f : Addr} {fd : FuncData} (F : Fun K "_law_hall" "_law_hall" S__law_hall f fd) (T : Txt K mg C) (D_law_take : Fd P w K mg base CX0 1 "_law_take" fT fdT ["_law_bag_here", "_law_many"] sp_take)
    (D_law_names : Fd P w K mg base CX0 2 "_law_names" fN fdN ["_law_bag_here", "_law_many"] sp_names) (D_law_spans : Fd P w K mg base CX0 2 "_law_spans" fS fdS ["_law_bag_here", "_law_many", "_law_top"] sp_ints)
    (D_law_rests : Fd P w K mg base CX0 2 "_law_rests" fR fdR ["_law_bag_here", "_law_many", "_law_top"] sp_ints) :
    FnOk P w K mg base CX0 3 f fd ["_law_bag_here", "_law_many", "_law_top", "_law_longest"] sp_hall := by
  refine F.ok sc__law_hall (fun vs H Q E h => ?_) (fun cdv A outer s H vs Q E hr h => ?_)
  · obtain ⟨b, a, ns, m, top, lon, rfl, _⟩ := h
    rfl
  · obtain ⟨b, a, ns, m, top, lon, rfl, B, h1, h2, h3, h4, h5, h6, k⟩ := h
    refine ⟨_, (pss_cons (ps_set (i := 4) sc__law_hall.nd rfl (Or.inl rfl) (pe_op op_add pe_int (pe_call D_law_take.ok (hr.mono (by decide)) rfl D_law_take.m D_law_take.kp D_law_take.b .nil pass0 (pa_cons (pv 0) (pa_cons (pv 1) pa_nil)))))
      (pss_cons (ps_set (i := 5) sc__law_hall.nd rfl (Or.inl rfl) (pe_call D_law_spans.ok (hr.mono (by decide)) rfl D_law_spans.m D_law_spans.kp D_law_spans.b .nil pass0 (pa_cons (pv 0) (pa_cons (pv 4) (pa_cons (pv 2) pa_nil)))))
      (pss_cons (ps_set (i := 6) sc__law_hall.nd rfl (Or.inl rfl) (pe_ix ix_list (pe_lst (pa_cons (pe_call D_law_take.ok (hr.mono (by decide)) rfl D_law_take.m D_law_take.kp D_law_take.b .nil pass0 (pa_cons (pv 0) (pa_cons (pe_op op_add (pv 4) pe_int) pa_nil))) (pa_cons (pv 4) pa_nil))) (pe_callTy call_int1 (by rfl) T.b_int (by decide +kernel) (pa_cons (pe_cmpR op_eq (pe_call D_law_take.ok (hr.mono (by decide)) rfl D_law_take.m D_law_take.kp D_law_take.b .nil pass0 (pa_cons (pv 0) (pa_cons pe_int pa_nil))) pe_int (nomark _)) pa_nil)) (fun _ _ => rfl)))
      (pss_one (ps_ret (pe_tup (pa_cons (pv 5) (pa_cons (pe_dictZip rfl (by rfl) T.b_dict (by rfl) T.b_zip (pa_cons (pe_call D_law_names.ok (hr.mono (by decide)) rfl D_law_names.m D_law_names.kp D_law_names.b .nil pass0 (pa_cons (pv 0) (pa_cons (pv 6) pa_nil))) (pa_cons (pe_call D_law_rests.ok (hr.mono (by decide)) rfl D_law_rests.m D_law_rests.kp D_law_rests.b .nil pass0 (pa_cons (pv 0) (pa_cons (pv 6) (pa_cons (pv 3) pa_nil)))) pa_nil))) pa_nil)))))))), ?_⟩
    refine ⟨_, rfl, _, rfl, b, a, ns, m, rfl, B, h1, by omega, fun H1 sz k1 B1 s1 s2 => ⟨_, _, rfl, rfl, ?_⟩⟩
    refine ⟨_, rfl, _, rfl, _, rfl, b, a, ns, 1 + sz, top, rfl, B1, by omega, by omega, h3, h4, fun H2 p xs k2 B2 e2 l2 b2 => ?_⟩
    refine ⟨_, rfl, _, rfl, _, _, rfl, rfl, b, a, ns, _, rfl, B2, by omega, by omega, fun H3 v3 k3 B3 c1 c2 => ⟨_, rfl, (by show 2 ≤ sizeLine; decide), fun q hq => ?_⟩⟩
    have G2 : BK b a ns H H2 := (BK.step ⟨B, k1, B1⟩ k2 B2)
    have G3 := (G2.step k3 B3).new (o := .lst [.int v3, .int (1 + sz)]) hq
    refine ⟨_, rfl, b, a, ns, 4, rfl, G3.bg, by decide, by decide, fun H5 v5 k5 B5 d1 d2 => ⟨rfl, .inr ⟨_, rfl, ?_⟩⟩⟩
    have G5 := G3.step k5 B5
    obtain ⟨th, hth, eth⟩ := pick (xs := [v3, 1 + sz]) (i := if decide (V.int v5 = V.int 0) = true then 1 else 0) (by split <;> decide) (by show _ < (2 : Int); split <;> decide)
    have hth' : 0 ≤ th ∧ th ≤ 1 + sz := by
      simp at hth
      omega
    refine ⟨q, _, _, _, rfl, rfl, SqL.of (k5.get upd_same), eth, ?_⟩
    refine ⟨_, rfl, _, rfl, _, rfl, b, a, ns, th, rfl, B5, hth'.1, by omega, fun H6 pn names k6 B6 e6 l6 => ?_⟩
    refine ⟨_, rfl, _, rfl, _, rfl, b, a, ns, th, lon, rfl, B6, hth'.1, by omega, h5, h6, fun H7 pr rs k7 B7 e7 l7 r7 => ?_⟩
    have ek : (names.map (Sum.inr : Str → Key)).map kV = names.map V.str := by rw [List.map_map]; rfl
    have en : H7 pn = some (.lst (names.map V.str)) := k7.get e6 (strs_nobag _)
    refine ⟨pn, pr, names.map Sum.inr, rs.map V.int, rfl, by rw [ek]; exact SqL.of en, SqL.of e7, by rw [List.length_map, List.length_map]; omega, fun d hd => ⟨(by show 2 ≤ sizeLine; decide), fun t ht => ?_⟩⟩
    obtain ⟨ys, m1, m2, m3, m4⟩ := merge_kvS names rs []
    have G7 := (G5.step k6 B6).step k7 B7
    have G8 := (G7.new (o := .dK (mergeK [] ((names.map (Sum.inr : Str → Key)).zip (rs.map V.int)))) hd).new (o := .tup [.ref p, .ref d]) ht
    have ep3 : H3 p = some (.lst (xs.map V.int)) := k3.get e2 (ints_nobag _)
    have ep5 : H5 p = some (.lst (xs.map V.int)) := k5.get (by rw [upd_ne (ne_of_none ep3 hq)]; exact ep3) (ints_nobag _)
    have ep7 : H7 p = some (.lst (xs.map V.int)) := k7.get (k6.get ep5 (ints_nobag _)) (ints_nobag _)
    have ntd : d ≠ t := fun z => by rw [← z, upd_same] at ht; cases ht
    have ep8 : (upd H7 d (.dK (mergeK [] ((names.map (Sum.inr : Str → Key)).zip (rs.map V.int))))) p = some (.lst (xs.map V.int)) := by rw [upd_ne (ne_of_none ep7 hd)]; exact ep7
    refine k _ t p d xs ys G8.kp G8.bg upd_same ?_ ?_ ⟨by omega, by omega, b2⟩ (by omega) ⟨m2 (by simp [nms]), by simp at m3; omega, m4 (fun x => 1 ≤ x ∧ x ≤ 1000) (fun z hz => by cases hz) r7⟩ (by simp at m3; omega)
    · rw [upd_ne (ne_of_none ep8 ht)]; exact ep8
    · rw [upd_ne ntd, upd_same]; exact congrArg (fun z => some (HO.dK z)) m1
-- _law_other_spans: slots 0 _law_bag_here, 1 _law_spans_here, 2 _law_top, 3 _law_found, 4 _law_k, 5 _law_at
abbrev S__law_other_spans : Stmt := (topS 43)
abbrev N__law_other_spans : List Str := ["_law_bag_here", "_law_spans_here", "_law_top", "_law_found", "_law_k", "_law_at"]
theorem sc__law_other_spans : FnScope N__law_other_spans ["_law_bag_here", "_law_spans_here", "_law_top"] (defScope S__law_other_spans) := ⟨rfl, rfl, rfl, by decide +kernel, rfl, by decide +kernel, by decide +kernel⟩
def sp_other : Sp := fun vs H Q _ => ∃ (b a : Addr) (ns : List Int) (p : Addr) (xs : List Int) (top : Int), vs = [.ref b, .ref p, .int top] ∧ Bag H b a ns ∧ H p = some (.lst (xs.map V.int)) ∧ Lens xs ∧ 1 ≤ top ∧ top ≤ 100 ∧
  ∀ (H' : Hp) (q : Addr) (ys : List Int), Kp H H' → Bag H' b a ns → H' q = some (.lst (ys.map V.int)) → Lens ys → ys.length = xs.length → Q (.ref q) H'
theorem ok_other {f : Addr} {fd : FuncData} (F : Fun K "_law_other_spans" "_law_other_spans" S__law_other_spans f fd) (T : Txt K mg C) (D_law_take : Fd P w K mg base CX0 1 "_law_take" fT fdT ["_law_bag_here", "_law_many"] sp_take) :
    FnOk P w K mg base CX0 2 f fd ["_law_bag_here", "_law_spans_here", "_law_top"] sp_other := by
  refine F.ok sc__law_other_spans (fun vs H Q E h => ?_) (fun cdv A outer s H vs Q E hr h => ?_)
  · obtain ⟨b, a, ns, p, xs, top, rfl, _⟩ := h
    rfl
  · obtain ⟨b, a, ns, p, xs, top, rfl, B, e0, L, h3, h4, k⟩ := h
    refine ⟨_, (pss_cons (ps_set (i := 3) sc__law_other_spans.nd rfl (Or.inl rfl) (pe_callTy call_list_of (by rfl) T.b_list (by decide +kernel) (pa_cons (pv 1) pa_nil)))
      (pss_cons (ps_for PassesOwn.never rfl (pi_range1 rfl T.b_range (pa_cons (pe_ix ix_list (pe_lst (pa_cons pe_int (pa_cons pe_int (pa_cons pe_int (pa_cons pe_int pa_nil))))) (pe_call D_law_take.ok (hr.mono (by decide)) rfl D_law_take.m D_law_take.kp D_law_take.b .nil pass0 (pa_cons (pv 0) (pa_cons pe_int pa_nil))) (fun _ _ => rfl)) pa_nil)) (pg_name (i := 4) sc__law_other_spans.nd rfl (Or.inl rfl))
        (pss_cons (ps_set (i := 5) sc__law_other_spans.nd rfl (Or.inl rfl) (pe_call D_law_take.ok (hr.mono (by decide)) rfl D_law_take.m D_law_take.kp D_law_take.b .nil pass0 (pa_cons (pv 0) (pa_cons (pe_callB call_len_seq (by rfl) T.b_len PySem.boot_len (pa_cons (pv 3) pa_nil)) pa_nil))))
        (pss_one (ps_asg (pe_ix ix_list (pe_lst (pa_cons (pe_op op_add pe_int (pe_call D_law_take.ok (hr.mono (by decide)) rfl D_law_take.m D_law_take.kp D_law_take.b .nil pass0 (pa_cons (pv 0) (pa_cons (pv 2) pa_nil)))) (pa_cons (pe_op op_add pe_int (pe_op op_mod (pe_ix ix_list (pv 3) (pv 5) (fun _ _ => rfl)) (pv 2))) pa_nil))) (pe_call D_law_take.ok (hr.mono (by decide)) rfl D_law_take.m D_law_take.kp D_law_take.b .nil pass0 (pa_cons (pv 0) (pa_cons pe_int pa_nil))) (fun _ _ => rfl)) (pg_sub (pv 3) (pv 5) set_list)))))
      (pss_one (ps_ret (pv 3))))), ?_⟩
    refine ⟨_, rfl, p, _, rfl, .inl (SqL.of e0), fun r hr0 => ?_⟩
    have G0 := (BK.start B).new (o := .lst (xs.map V.int)) hr0
    refine ⟨(by show 4 ≤ sizeLine; decide), fun q hq => ?_⟩
    have G1 := G0.new (o := .lst [.int 0, .int 1, .int 1, .int 2]) hq
    refine ⟨_, rfl, b, a, ns, 4, rfl, G1.bg, by decide, by decide, fun H2 v2 k2 B2 c1 c2 => ?_⟩
    have G2 := G1.step k2 B2
    obtain ⟨n, hn, en⟩ := pick (xs := [0, 1, 1, 2]) c1 c2
    have hn' : 0 ≤ n ∧ n ≤ 2 := by
      simp at hn
      omega
    have er : H2 r = some (.lst (xs.map V.int)) := k2.get (by rw [upd_ne (ne_of_none upd_same hq), upd_same]) (ints_nobag _)
    refine ⟨q, _, _, _, rfl, rfl, SqL.of (k2.get upd_same), en, n, rfl, by omega, by omega, for_range (lo := 0) (n := n.toNat) (fun i σ H' => ∃ (ys : List Int) (v4 v5 : Option V), σ = [some (.ref b), some (.ref p), some (.int top), some (.ref r), v4, v5] ∧ BK b a ns H H' ∧ H' r = some (.lst (ys.map V.int)) ∧ ys.length = xs.length ∧ ∀ x ∈ ys, 1 ≤ x ∧ x ≤ 1000) ?_ ?_ ?_⟩
    · exact ⟨xs, none, none, rfl, G2, er, rfl, L.2.2⟩
    · rintro i σ H' hi ⟨ys, v4, v5, rfl, G, e1, e2, e3⟩
      have l1 := L.1
      have l2 := L.2.1
      refine ⟨_, rfl, _, rfl, r, _, rfl, .inl (SqL.of e1), b, a, ns, _, rfl, G.bg, by rw [List.length_map]; omega, by rw [List.length_map]; omega, fun H3 at' k3 B3 d1 d2 => ?_⟩
      rw [List.length_map] at d2
      have e3' : H3 r = some (.lst (ys.map V.int)) := k3.get e1 (ints_nobag _)
      refine ⟨_, rfl, _, rfl, b, a, ns, top, rfl, B3, h3, by omega, fun H4 v4' k4 B4 f1 f2 => ⟨_, _, rfl, rfl, ?_⟩⟩
      have e4 : H4 r = some (.lst (ys.map V.int)) := k4.get e3' (ints_nobag _)
      obtain ⟨y, hy, ey⟩ := pick (xs := ys) d1 d2
      refine ⟨_, rfl, _, rfl, r, _, _, _, rfl, rfl, SqL.of e4, ey, _, rfl, _, _, rfl, rfl, (by show 0 < top; omega), _, _, rfl, rfl, (by show 2 ≤ sizeLine; decide), fun l hl => ?_⟩
      have g1 := Int.emod_nonneg y (show top ≠ 0 by omega)
      have g2 := Int.emod_lt_of_pos y (show 0 < top by omega)
      have G4 := ((G.step k3 B3).step k4 B4).new (o := .lst [.int (1 + v4'), .int (1 + y % top)]) hl
      refine ⟨_, rfl, b, a, ns, 2, rfl, G4.bg, by decide, by decide, fun H6 v6 k6 B6 q1 q2 => ?_⟩
      have G6 := G4.step k6 B6
      obtain ⟨z, hz, ez⟩ := pick (xs := [1 + v4', 1 + y % top]) q1 q2
      have hz' : 1 ≤ z ∧ z ≤ 1000 := by
        simp at hz
        omega
      have e6 : H6 r = some (.lst (ys.map V.int)) := k6.get (by rw [upd_ne (ne_of_none e4 hl)]; exact e4) (ints_nobag _)
      have ix : ixN (ys.map V.int).length at' = some at'.toNat := by
        unfold ixN
        rw [List.length_map, if_pos d1, if_pos d2]
      refine ⟨l, _, _, _, rfl, rfl, SqL.of (k6.get upd_same), ez, _, rfl, _, rfl, r, _, at', at'.toNat, rfl, rfl, e6, ix, ?_⟩
      refine ⟨ys.set at'.toNat z, _, _, rfl, G6.upd hr0, ?_, by rw [List.length_set]; exact e2, fun x hx => ?_⟩
      · rw [upd_same, List.map_set]
      · rcases List.mem_or_eq_of_mem_set hx with q | q
        · exact e3 x q
        · rw [q]; exact hz'
    · rintro σ H' ⟨ys, v4, v5, rfl, G, e1, e2, e3⟩
      exact ⟨_, rfl, k H' r ys G.kp G.bg e1 ⟨by rw [e2]; exact L.1, by rw [e2]; exact L.2.1, e3⟩ e2⟩
end
end L2.K83

set_option Elab.async false
set_option linter.all false
set_option maxRecDepth 100000
set_option maxHeartbeats 4000000
/-! The law's own beats. -/
namespace L2.K83
open PySem PySem.Spec PyProof.Rows L2.KB
section
variable {P : Program} {w : World} {K : PySem.W.Frag} {mg : Str → Option Value} {base : Heap} {C : Addr} {fT fN fS fR : Addr} {fdT fdN fdS fdR : FuncData}
-- _law_stand: slots 0 _law_rests_here*, 1 _law_name
abbrev S__law_stand : Stmt := (topS 39)
abbrev N__law_stand : List Str := ["_law_rests_here", "_law_name"]
theorem sc__law_stand : FnScope N__law_stand ["_law_rests_here"] (defScope S__law_stand) := ⟨rfl, rfl, rfl, by decide +kernel, rfl, by decide +kernel, by decide +kernel⟩
def sp_stand : Sp := fun vs H Q _ => ∃ (d : Addr) (zs : St0), vs = [.ref d] ∧ H d = some (.dK (kvS zs)) ∧ (nms zs).Nodup ∧ zs.length ≤ 40 ∧ ∀ (H' : Hp) (v : V), Same H H' → Tp H' v (dSt (sortSl zs)) → Q v H'
theorem ok_stand {f : Addr} {fd : FuncData} (F : Fun K "_law_stand" "_law_stand" S__law_stand f fd) (T : Txt K mg C) : FnOk P w K mg base CX0 1 f fd ["_law_rests_here"] sp_stand := by
  refine F.ok sc__law_stand (fun vs H Q E h => ?_) (fun cdv A outer s H vs Q E hr h => ?_)
  · obtain ⟨d, zs, rfl, _⟩ := h
    rfl
  · obtain ⟨d, zs, rfl, e0, nd, hl, k⟩ := h
    refine ⟨_, (pss_one (ps_ret (pe_callTy call_tuple_of (by rfl) T.b_tuple (by decide +kernel) (pa_cons (pe_callB (cr_sortedSP hr.units) (by rfl) T.b_sorted (by decide +kernel) (pa_cons (pe_lock (pe_lc (own := [("_law_name", 1)]) (g := (gName 1)) (tt := tYes) rfl sc__law_stand.nd (pi_keys (pv 0)) (blkOk_by (own := [("_law_name", 1)]) (N := N__law_stand) (sc := defScope S__law_stand) (by decide +kernel)) (fun _ _ _ _ _ => (pg_name (i := 1) sc__law_stand.nd rfl (Or.inl rfl))) (fun _ _ _ _ _ => pts_nil) (fun _ _ _ _ _ => (pe_tup (pa_cons (pv 1) (pa_cons (pe_dget (hu_of hr) (pv 0) (pv 1) (fun _ _ => rfl)) pa_nil)))))) pa_nil)) pa_nil)))), ?_⟩
    refine ⟨d, _, e0, trivial, fun od => ⟨_, rfl, d, od, rfl, .inl ⟨_, upd_same, fun D hD => lc_it (n := zs.length) (fun i H' => ∃ vs : List V, H' D = some (.lst vs) ∧ TpA H' vs ((zs.take i).map dSl) ∧ Same (upd H d (.frz od (.dK (kvS zs)))) H') ?_ ?_ ?_ ?_ ?_⟩⟩⟩
    · exact ⟨[], upd_same, .nil, same_newK (fun _ _ h => h) hD⟩
    · rintro i H' hi ⟨vs, e1, e2, e3⟩
      exact ⟨e3 _ _ upd_same, by rw [kvS_len]; exact hi⟩
    · rintro H' ⟨vs, e1, e2, e3⟩
      exact ⟨e3 _ _ upd_same, by rw [kvS_len]; exact Nat.le_refl _⟩
    · rintro i H1 hi ⟨vs, e1, e2, e3⟩ x H2 ⟨rfl, kk, vv, hk, rfl⟩
      obtain ⟨z, hz, ez⟩ := map_get hk
      cases ez
      have ed := e3 _ _ upd_same
      have el := e2.length
      rw [List.length_map, List.length_take, Nat.min_eq_left (Nat.le_of_lt hi)] at el
      refine ⟨rfl, _, rfl, _, rfl, _, rfl, d, .int z.2, rfl, .inl ⟨kvS zs, Sum.inr z.1, .inr ⟨od, ed⟩, rfl, ?_⟩, (by show 2 ≤ sizeLine; decide), fun t ht => ?_⟩
      · rw [valV_kvS, valS_at nd (List.mem_of_getElem? hz)]; rfl
      · have nDt := ne_of_none e1 ht
        have s1 := same_newK e3 (o := .tup [.str z.1, .int z.2]) ht
        refine ⟨_, by rw [upd_ne nDt]; exact e1, ?_, vs ++ [.ref t], upd_same, ?_, same_upd s1 hD⟩
        · exact small1000 (by omega)
        · rw [take_succ hz, List.map_append]
          refine TpA.snoc (e2.mono ?_) (tp_sl_of ?_)
          · exact (tx_new ht).trans (tx_updL (by rw [upd_ne nDt]; exact e1))
          · show (upd _ D _) t = _
            rw [upd_ne nDt.symm]; exact upd_same
    · rintro H' ⟨vs, e1, e2, e3⟩
      have ed := e3 _ _ upd_same
      have e4 := same_unlock e0 e3
      have ndD : d ≠ D := ne_of_none upd_same hD
      rw [List.take_length] at e2
      refine ⟨ed, D, vs, zs, rfl, SqL.of (by rw [upd_ne ndD.symm]; exact e1), e2.mono (tx_unlock ed), fun p ws hp hw => ⟨p, ws, rfl, .inl ⟨SqL.of upd_same, fun l hl => k _ _ (same_newK (same_newK e4 hp) hl) (.tup upd_same (hw.mono ((tx_new hp).trans (tx_new hl))))⟩⟩⟩
-- _law_after: slots 0 _law_spans_here, 1 _law_rests_here*, 2 _law_behind*, 3 _law_up, 4 _law_name
abbrev S__law_after : Stmt := (topS 40)
abbrev N__law_after : List Str := ["_law_spans_here", "_law_rests_here", "_law_behind", "_law_up", "_law_name"]
theorem sc__law_after : FnScope N__law_after ["_law_spans_here", "_law_rests_here"] (defScope S__law_after) := ⟨rfl, rfl, rfl, by decide +kernel, rfl, by decide +kernel, by decide +kernel⟩
/-- the tuples of a row of sleepers, as a dict's pairs -/
theorem pairs_tpa {H : Hp} {vs : List V} {ps : St0} (h : TpA H vs (ps.map dSl)) : ∃ as : List Addr, vs = as.map V.ref ∧ Paired (fun p kv => SqT K H p [kV kv.1, kv.2]) as (kvS ps) := by
  obtain ⟨bs, e1, e2, e3⟩ := sl_items h
  refine ⟨bs.map (·.1), by rw [e2, List.map_map]; rfl, ?_⟩
  rw [← e1]
  clear e1 e2 h
  induction bs with
  | nil => exact .nil
  | cons b bs ih => exact .cons (SqT.of (e3 b List.mem_cons_self)) (ih fun x hx => e3 x (List.mem_cons_of_mem _ hx))
/-- rests one lower -/
def lowS (zs : St0) : St0 := zs.map fun z => (z.1, z.2 - 1)
theorem lowS_nms (zs : St0) : nms (lowS zs) = nms zs := by unfold nms lowS; rw [List.map_map]; rfl
theorem ups_low (zs : St0) : ((lowS zs).filter fun z => decide (z.2 = 0)).map (·.1) = ups zs := by
  unfold lowS ups
  rw [List.filter_map, List.map_map]
  congr 1
  refine List.filter_congr fun z _ => ?_
  show decide (z.2 - 1 = 0) = decide (z.2 = 1)
  exact decide_eq_decide.mpr (by omega)
/-- the first of those who wake are at r -/
def setS (zs : St0) (us : List Str) (r : Int) : St0 := zs.map fun z => (z.1, if z.1 ∈ us then r else z.2 - 1)
theorem setS_put {zs : St0} {us : List Str} {r : Int} {n : Str} (hn : n ∈ nms zs) : putS (setS zs us r) n r = setS zs (us ++ [n]) r := by
  unfold putS
  have e : nms (setS zs us r) = nms zs := by unfold nms setS; rw [List.map_map]; rfl
  rw [e, if_pos hn]
  unfold setS
  rw [List.map_map]
  refine List.map_congr_left fun z _ => ?_
  show (if z.1 = n then (z.1, r) else (z.1, if z.1 ∈ us then r else z.2 - 1)) = (z.1, if z.1 ∈ us ++ [n] then r else z.2 - 1)
  by_cases h : z.1 = n
  · rw [if_pos h, if_pos (List.mem_append.mpr (.inr (List.mem_singleton.mpr h)))]
  · rw [if_neg h]
    by_cases q : z.1 ∈ us
    · rw [if_pos q, if_pos (List.mem_append_left _ q)]
    · rw [if_neg q, if_neg (fun c => by
        rcases List.mem_append.mp c with c | c
        · exact q c
        · exact h (List.mem_singleton.mp c))]
theorem setS_nil (zs : St0) (r : Int) : setS zs [] r = lowS zs := by
  unfold setS lowS
  refine List.map_congr_left fun z _ => ?_
  rw [if_neg (by simp)]
theorem setS_all {rows : List Int} {zs : St0} (nd : (nms zs).Nodup) : setS zs (ups zs) (rows.getD ((ups zs).length - 1) 0) = beatS rows zs := by
  unfold setS beatS
  refine List.map_congr_left fun z hz => ?_
  by_cases h : z.2 = 1
  · rw [if_pos h, if_pos]
    unfold ups
    exact List.mem_map.mpr ⟨z, List.mem_filter.mpr ⟨hz, decide_eq_true h⟩, rfl⟩
  · rw [if_neg h, if_neg]
    intro c
    unfold ups at c
    obtain ⟨y, hy, e⟩ := List.mem_map.mp c
    obtain ⟨hy, h1⟩ := List.mem_filter.mp hy
    have h1 := of_decide_eq_true h1
    have a1 := valS_at nd hy
    have a2 := valS_at nd hz
    rw [e, a2] at a1
    have := Option.some.inj a1
    omega
def sp_after : Sp := fun vs H Q _ => ∃ (p d : Addr) (rows : List Int) (zs : St0), vs = [.ref p, .ref d] ∧ H p = some (.lst (rows.map V.int)) ∧ H d = some (.dK (kvS zs)) ∧ Asc (nms zs) ∧ zs.length ≤ 40 ∧ zs.length ≤ rows.length ∧
  ∀ (H' : Hp) (t d' u : Addr), Same H H' → H' t = some (.tup [.ref d', .ref u]) → H' d' = some (.dK (kvS (beatS rows zs))) → H' u = some (.lst ((ups zs).map V.str)) → Q (.ref t) H'
theorem ok_after {f : Addr} {fd : FuncData} (F : Fun K "_law_after" "_law_after" S__law_after f fd) (T : Txt K mg C) : FnOk P w K mg base CX0 1 f fd ["_law_spans_here", "_law_rests_here"] sp_after := by
  refine F.ok sc__law_after (fun vs H Q E h => ?_) (fun cdv A outer s H vs Q E hr h => ?_)
  · obtain ⟨p, d, rows, zs, rfl, _⟩ := h
    rfl
  · obtain ⟨p, d, rows, zs, rfl, ep, e0, asc, hl, hlr, k⟩ := h
    have nd := asc.nodup
    refine ⟨_, (pss_cons (ps_set (i := 2) sc__law_after.nd rfl (Or.inr rfl) (pe_callTy (call_dictP rfl) (by rfl) T.b_dict (by decide +kernel) (pa_cons (pe_lock (pe_lc (own := [("_law_name", 4)]) (g := (gName 4)) (tt := tYes) rfl sc__law_after.nd (pi_keys (pv 1)) (blkOk_by (own := [("_law_name", 4)]) (N := N__law_after) (sc := defScope S__law_after) (by decide +kernel)) (fun _ _ _ _ _ => (pg_name (i := 4) sc__law_after.nd rfl (Or.inl rfl))) (fun _ _ _ _ _ => pts_nil) (fun _ _ _ _ _ => (pe_tup (pa_cons (pv 4) (pa_cons (pe_op op_sub (pe_dget (hu_of hr) (pv 1) (pv 4) (fun _ _ => rfl)) pe_int) pa_nil)))))) pa_nil)))
      (pss_cons (ps_set (i := 3) sc__law_after.nd rfl (Or.inl rfl) (pe_callB cr_sortedS (by rfl) T.b_sorted (by decide +kernel) (pa_cons (pe_lock (pe_lc (own := [("_law_name", 4)]) (g := (gName 4)) rfl sc__law_after.nd (pi_keys (pv 2)) (blkOk_by (own := [("_law_name", 4)]) (N := N__law_after) (sc := defScope S__law_after) (by decide +kernel)) (fun _ _ _ _ _ => (pg_name (i := 4) sc__law_after.nd rfl (Or.inl rfl))) (fun _ _ _ _ _ => (pts_one (pt_cmpR op_eq (pe_dget (hu_of hr) (pv 2) (pv 4) (fun _ _ => rfl)) pe_int (nomark _)))) (fun _ _ _ _ _ => (pv 4)))) pa_nil)))
      (pss_cons (ps_for PassesOwn.never rfl (pi_list (pv 3)) (pg_name (i := 4) sc__law_after.nd rfl (Or.inl rfl))
        (pss_one (ps_dput (hu_of hr) (pv 2) (pv 4) (pe_ix ix_list (pv 0) (pe_op op_sub (pe_callB call_len_seq (by rfl) T.b_len PySem.boot_len (pa_cons (pv 3) pa_nil)) pe_int) (fun _ _ => rfl)) rfl)))
      (pss_one (ps_ret (pe_tup (pa_cons (pv 2) (pa_cons (pv 3) pa_nil)))))))), ?_⟩
    -- dict([..])
    refine ⟨d, _, e0, trivial, fun od => ⟨_, rfl, d, od, rfl, .inl ⟨_, upd_same, fun D hD => lc_it (n := zs.length) (fun i H' => ∃ vs : List V, H' D = some (.lst vs) ∧ TpA H' vs (((lowS zs).take i).map dSl) ∧ Same (upd H d (.frz od (.dK (kvS zs)))) H') ?_ ?_ ?_ ?_ ?_⟩⟩⟩
    · exact ⟨[], upd_same, .nil, same_newK (fun _ _ h => h) hD⟩
    · rintro i H' hi ⟨vs, e1, e2, e3⟩
      exact ⟨e3 _ _ upd_same, by rw [kvS_len]; exact hi⟩
    · rintro H' ⟨vs, e1, e2, e3⟩
      exact ⟨e3 _ _ upd_same, by rw [kvS_len]; exact Nat.le_refl _⟩
    · rintro i H1 hi ⟨vs, e1, e2, e3⟩ x H2 ⟨rfl, kk, vv, hk, rfl⟩
      obtain ⟨z, hz, ez⟩ := map_get hk
      cases ez
      have ed := e3 _ _ upd_same
      have el := e2.length
      rw [List.length_map, List.length_take, show (lowS zs).length = zs.length from List.length_map _, Nat.min_eq_left (Nat.le_of_lt hi)] at el
      refine ⟨rfl, _, rfl, _, rfl, _, rfl, d, .int z.2, rfl, .inl ⟨kvS zs, Sum.inr z.1, .inr ⟨od, ed⟩, rfl, ?_⟩, _, _, rfl, rfl, (by show 2 ≤ sizeLine; decide), fun t ht => ?_⟩
      · rw [valV_kvS, valS_at nd (List.mem_of_getElem? hz)]; rfl
      · have nDt := ne_of_none e1 ht
        have s1 := same_newK e3 (o := .tup [.str z.1, .int (z.2 - 1)]) ht
        refine ⟨_, by rw [upd_ne nDt]; exact e1, ?_, vs ++ [.ref t], upd_same, ?_, same_upd s1 hD⟩
        · exact small1000 (by omega)
        · have hz2 : (lowS zs)[i]? = some (z.1, z.2 - 1) := get_map (f := fun z : Str × Int => (z.1, z.2 - 1)) hz
          rw [take_succ hz2, List.map_append]
          refine TpA.snoc (e2.mono ?_) (tp_sl_of (p := (z.1, z.2 - 1)) ?_)
          · exact (tx_new ht).trans (tx_updL (by rw [upd_ne nDt]; exact e1))
          · show (upd _ D _) t = _
            rw [upd_ne nDt.symm]; exact upd_same
    · rintro H1 ⟨vs, e1, e2, e3⟩
      have ed := e3 _ _ upd_same
      have s1 := same_unlock e0 e3
      have ndD : d ≠ D := ne_of_none upd_same hD
      rw [show zs.length = (lowS zs).length from (List.length_map _).symm, List.take_length] at e2
      have e2' := e2.mono (tx_unlock ed)
      obtain ⟨as, rfl, pa⟩ := pairs_tpa (K := K) e2'
      refine ⟨ed, D, as, kvS (lowS zs), rfl, SqL.of (by rw [upd_ne ndD.symm]; exact e1), pa, fun q hq => ?_⟩
      have hm : mergeK [] (kvS (lowS zs)) = kvS (lowS zs) := merge_self (lowS zs) [] (by rw [List.nil_append, lowS_nms]; exact nd)
      rw [hm]
      have s2 := same_newK s1 (o := .dK (kvS (lowS zs))) hq
      have q0 := s1.free hq
      generalize hH2 : upd (upd H1 d (.dK (kvS zs))) q (.dK (kvS (lowS zs))) = H2 at s2
      have eq2 : H2 q = some (.dK (kvS (lowS zs))) := by rw [← hH2]; exact upd_same
      clear hH2 e1 e2 e3 ed s1 e2' pa hD hq
      -- sorted([..])
      refine ⟨q, _, eq2, trivial, fun od2 => ⟨_, rfl, q, od2, rfl, .inl ⟨_, upd_same, fun D2 hD2 => lc_it (n := zs.length) (fun i H' => ∃ xs : List Str, H' D2 = some (.lst (xs.map V.str)) ∧ xs = (((lowS zs).take i).filter fun z => decide (z.2 = 0)).map (·.1) ∧ Same (upd H2 q (.frz od2 (.dK (kvS (lowS zs))))) H') ?_ ?_ ?_ ?_ ?_⟩⟩⟩
      · exact ⟨[], upd_same, by simp, same_newK (fun _ _ h => h) hD2⟩
      · rintro i H' hi ⟨xs, e1, e2, e3⟩
        exact ⟨e3 _ _ upd_same, by rw [kvS_len, show (lowS zs).length = zs.length from List.length_map _]; exact hi⟩
      · rintro H' ⟨xs, e1, e2, e3⟩
        exact ⟨e3 _ _ upd_same, by rw [kvS_len, show (lowS zs).length = zs.length from List.length_map _]; exact Nat.le_refl _⟩
      · rintro i H1 hi ⟨xs, e1, e2, e3⟩ x H3 ⟨rfl, kk, vv, hk, rfl⟩
        obtain ⟨z, hz, ez⟩ := map_get hk
        cases ez
        have ed := e3 _ _ upd_same
        have nd2 : (nms (lowS zs)).Nodup := by rw [lowS_nms]; exact nd
        refine ⟨rfl, _, rfl, _, rfl, q, .int z.2, rfl, .inl ⟨kvS (lowS zs), Sum.inr z.1, .inr ⟨od2, ed⟩, rfl, ?_⟩, rfl, _, rfl, ?_⟩
        · rw [valV_kvS, valS_at nd2 (List.mem_of_getElem? hz)]; rfl
        · have hlen : xs.length ≤ 40 := by
            rw [e2, List.length_map]
            refine Nat.le_trans (List.length_filter_le _ _) ?_
            rw [List.length_take]; omega
          rw [show decide (V.int z.2 = V.int 0) = decide (z.2 = 0) from decide_eq_decide.mpr ⟨fun h => V.int.inj h, fun h => by rw [h]⟩]
          refine iteB (fun c => ?_) (fun c => ?_)
          · refine ⟨_, rfl, _, e1, ?_, xs ++ [z.1], ?_, ?_, same_upd e3 hD2⟩
            · rw [List.length_map]; exact small1000 (by omega)
            · rw [upd_same, List.map_append]; rfl
            · rw [take_succ hz, List.filter_append, List.map_append, ← e2, List.filter_cons_of_pos (p := fun z : Str × Int => decide (z.2 = 0)) c]; rfl
          · refine ⟨xs, e1, ?_, e3⟩
            rw [take_succ hz, List.filter_append, List.map_append, ← e2, List.filter_cons_of_neg (p := fun z : Str × Int => decide (z.2 = 0)) (by rw [c]; decide)]; simp
      · rintro H1 ⟨xs, e1, e2, e3⟩
        have ed := e3 _ _ upd_same
        have s3 := s2.trans (same_unlock eq2 e3)
        have nqD : q ≠ D2 := ne_of_none upd_same hD2
        rw [show zs.length = (lowS zs).length from (List.length_map _).symm, List.take_length, ups_low] at e2
        subst e2
        have ascU : Asc (ups zs) := by
          refine List.Pairwise.sublist ?_ asc
          exact List.Sublist.map _ (List.filter_sublist)
        have lU := ups_len zs
        refine ⟨ed, D2, ups zs, rfl, SqL.of (by rw [upd_ne nqD.symm]; exact e1), by omega, fun ys u pm so hu => ?_⟩
        have ey := sortedS_self ascU pm so
        subst ey
        have s4 := same_newK s3 (o := .lst ((ups zs).map V.str)) hu
        have u0 := s3.free hu
        have equ : (upd H1 q (.dK (kvS (lowS zs)))) q = some (.dK (kvS (lowS zs))) := upd_same
        have nqu : q ≠ u := ne_of_none equ hu
        generalize hH5 : upd (upd H1 q (.dK (kvS (lowS zs)))) u (.lst ((ups zs).map V.str)) = H5 at s4
        have eq5 : H5 q = some (.dK (kvS (lowS zs))) := by rw [← hH5, upd_ne nqu]; exact equ
        have eu5 : H5 u = some (.lst ((ups zs).map V.str)) := by rw [← hH5]; exact upd_same
        refine ⟨_, rfl, u, rfl, ⟨_, SqL.of eu5⟩, for_list (K := K) (a := u) (xs := (ups zs).map V.str) (fun i σ H' => ∃ v4 : Option V, σ = [some (.ref p), some (.ref d), some (.ref q), some (.ref u), v4] ∧ H' q = some (.dK (kvS (setS zs ((ups zs).take i) (rows.getD ((ups zs).length - 1) 0)))) ∧ H' u = some (.lst ((ups zs).map V.str)) ∧ Same H H') ?_ ?_ ?_ ?_⟩
        · exact ⟨none, rfl, by rw [List.take_zero, setS_nil]; exact eq5, eu5, s4⟩
        · rintro i σ H' _ ⟨v4, _, _, e, _⟩
          exact SqL.of e
        · rintro i x σ H' hi ⟨v4, rfl, g1, g2, g3⟩
          obtain ⟨n, hn, rfl⟩ := map_get hi
          have hil : i < (ups zs).length := (List.getElem?_eq_some_iff.mp hn).1
          have hx : (ups zs).length - 1 < rows.length := by omega
          have hget : rows[(ups zs).length - 1]? = some (rows.getD ((ups zs).length - 1) 0) := by
            rw [List.getD_eq_getElem?_getD, List.getElem?_eq_getElem hx]; rfl
          have hin : n ∈ nms zs := by
            have h1 := List.mem_of_getElem? hn
            unfold ups at h1
            obtain ⟨y, hy, e⟩ := List.mem_map.mp h1
            subst e
            exact List.mem_map_of_mem (List.mem_filter.mp hy).1
          have sl : (setS zs ((ups zs).take i) (rows.getD ((ups zs).length - 1) 0)).length = zs.length := List.length_map _
          refine ⟨_, rfl, _, rfl, u, _, rfl, .inl (SqL.of g2), _, _, rfl, rfl, p, _, _, .int (rows.getD ((ups zs).length - 1) 0), rfl, rfl, SqL.of (g3 _ _ ep), ?_, ?_⟩
          · rw [List.length_map]
            refine atI_int (by omega) (get_map ?_)
            rw [show (((ups zs).length : Int) - 1).toNat = (ups zs).length - 1 by omega]
            exact hget
          · refine ⟨_, rfl, _, rfl, q, _, rfl, DPut.k (k := Sum.inr n) g1 (by rw [kvS_len, sl]; exact small1000 (by omega)), ?_⟩
            refine ⟨_, rfl, ?_, ?_, same_upd g3 q0⟩
            · rw [upd_same, putK_kvS, setS_put hin, take_succ hn]
            · rw [upd_ne (ne_of g2 g1 (by intro z; cases z))]; exact g2
        · rintro σ H' ⟨v4, rfl, g1, g2, g3⟩
          rw [List.length_map, List.take_length, setS_all nd] at g1
          refine ⟨_, rfl, _, rfl, (by show 2 ≤ sizeLine; decide), fun t ht => k _ t q u (same_newK g3 ht) upd_same ?_ ?_⟩
          · rw [upd_ne (ne_of_none g1 ht)]; exact g1
          · rw [upd_ne (ne_of_none g2 ht)]; exact g2
end
end L2.K83

set_option Elab.async false
set_option linter.all false
set_option maxRecDepth 100000
set_option maxHeartbeats 4000000
/-! One beat as the law takes it; the strokes. -/
namespace L2.K83
open PySem PySem.Spec PyProof.Rows L2.KB
section
variable {P : Program} {w : World} {K : PySem.W.Frag} {mg : Str → Option Value} {base : Heap} {C : Addr} {fT fN fS fR fA : Addr} {fdT fdN fdS fdR fdA : FuncData}
-- _law_called: slots 0 _law_spans_here, 1 _law_stand_here, 2 _law_stroke*, 3 _law_rests_here, 4 _law_behind, 5 _law_up, 6 _law_name, 7 _law_rest
abbrev S__law_called : Stmt := (topS 41)
abbrev N__law_called : List Str := ["_law_spans_here", "_law_stand_here", "_law_stroke", "_law_rests_here", "_law_behind", "_law_up", "_law_name", "_law_rest"]
theorem sc__law_called : FnScope N__law_called ["_law_spans_here", "_law_stand_here", "_law_stroke"] (defScope S__law_called) := ⟨rfl, rfl, rfl, by decide +kernel, rfl, by decide +kernel, by decide +kernel⟩
def sp_lcalled : Sp := fun vs H Q _ => ∃ (p k : Addr) (v : V) (rows : List Int) (s : St0) (st nm : List Str), vs = [.ref p, v, .ref k] ∧ H p = some (.lst (rows.map V.int)) ∧ Tp H v (dSt s) ∧ H k = some (.lst (st.map V.str)) ∧ OkS nm s ∧ Asc nm ∧ nm.length ≤ 40 ∧ nm.length ≤ rows.length ∧
  ∀ (H' : Hp) (t u : Addr) (v' : V), Same H H' → H' t = some (.tup [v', .ref u]) → Tp H' v' (dSt (stepS rows st s)) → H' u = some (.lst ((upS st s).map V.str)) → Q (.ref t) H'
theorem ok_lcalled {f : Addr} {fd : FuncData} (F : Fun K "_law_called" "_law_called" S__law_called f fd) (T : Txt K mg C) (D_law_stand : Fd P w K mg base CX0 1 "_law_stand" fS fdS ["_law_rests_here"] sp_stand)
    (D_law_after : Fd P w K mg base CX0 1 "_law_after" fA fdA ["_law_spans_here", "_law_rests_here"] sp_after) :
    FnOk P w K mg base CX0 2 f fd ["_law_spans_here", "_law_stand_here", "_law_stroke"] sp_lcalled := by
  refine F.ok sc__law_called (fun vs H Q E h => ?_) (fun cdv A outer s H vs Q E hr h => ?_)
  · obtain ⟨p, k, v, rows, s, st, nm, rfl, _⟩ := h
    rfl
  · obtain ⟨p, kk, v, rows, s, st, nm, rfl, ep, tv, ek, ok, asc, l1, l2, k⟩ := h
    obtain ⟨ta, xs, rfl, et, tx⟩ := tp_st tv
    have len := ok.length
    have lx : xs.length = s.length := by rw [tx.length, List.length_map]
    refine ⟨_, (pss_cons (ps_set (i := 3) sc__law_called.nd rfl (Or.inl rfl) (pe_callTy (call_dictP rfl) (by rfl) T.b_dict (by decide +kernel) (pa_cons (pe_lc (own := [("_law_name", 6), ("_law_rest", 7)]) (g := (gTup K 2 (gCons (gName 6) (gCons (gName 7) gNil)))) (tt := tYes) rfl sc__law_called.nd (pi_tup (pv 1)) (blkOk_by (own := [("_law_name", 6), ("_law_rest", 7)]) (N := N__law_called) (sc := defScope S__law_called) (by decide +kernel)) (fun _ _ _ _ _ => (by exact (pg_tupK (K := K) rfl rfl (pgs_cons (pg_name (i := 6) sc__law_called.nd rfl (Or.inl rfl)) (pgs_cons (pg_name (i := 7) sc__law_called.nd rfl (Or.inl rfl)) pgs_nil))))) (fun _ _ _ _ _ => pts_nil) (fun _ _ _ _ _ => (pe_tup (pa_cons (pv 6) (pa_cons (pe_ix (ix_listK (K := K) rfl) (pe_lst (pa_cons (pv 7) (pa_cons pe_int pa_nil))) (pe_callTy call_int1 (by rfl) T.b_int (by decide +kernel) (pa_cons (pe_cmpR (op_in_seqK (K := K) rfl) (pv 6) (pv 2) (by rfl)) pa_nil)) (fun _ _ => rfl)) pa_nil))))) pa_nil)))
      (pss_cons (ps_asg (pe_call D_law_after.ok (hr.mono (by decide)) rfl D_law_after.m D_law_after.kp D_law_after.b .nil pass0 (pa_cons (pv 0) (pa_cons (pv 3) pa_nil))) (pg_tup rfl (pgs_cons (pg_name (i := 4) sc__law_called.nd rfl (Or.inl rfl)) (pgs_cons (pg_name (i := 5) sc__law_called.nd rfl (Or.inl rfl)) pgs_nil))))
      (pss_one (ps_ret (pe_tup (pa_cons (pe_call D_law_stand.ok (hr.mono (by decide)) rfl D_law_stand.m D_law_stand.kp D_law_stand.b .nil pass0 (pa_cons (pv 4) pa_nil)) (pa_cons (pv 5) pa_nil))))))), ?_⟩
    refine ⟨_, rfl, ta, rfl, ⟨_, SqT.of et⟩, fun D hD => lc_tup (K := K) (a := ta) (xs := xs) (fun i H' => ∃ vs : List V, H' D = some (.lst vs) ∧ TpA H' vs (((callS st s).take i).map dSl) ∧ Same H H') ?_ ?_ ?_ ?_⟩
    · exact ⟨[], upd_same, .nil, same_newK (fun _ _ h => h) hD⟩
    · rintro i H' _ ⟨vs, e1, e2, e3⟩
      exact SqT.of (e3 _ _ et)
    · rintro i x H1 hi ⟨vs, e1, e2, e3⟩
      obtain ⟨z, hz, tz⟩ := tpa_item tx hi
      obtain ⟨za, rfl, ez⟩ := tp_sl tz
      have hil : i < s.length := (List.getElem?_eq_some_iff.mp hz).1
      have el := e2.length
      rw [List.length_map, List.length_take, show (callS st s).length = s.length from List.length_map _, Nat.min_eq_left (Nat.le_of_lt hil)] at el
      refine ⟨za, _, rfl, SqT.of (e3 _ _ ez), rfl, _, _, rfl, _, _, rfl, rfl, rfl, ?_⟩
      refine ⟨_, rfl, _, rfl, (by show 2 ≤ sizeLine; decide), fun q hq => ?_⟩
      have s1 := same_newK e3 (o := .lst [.int z.2, .int 1]) hq
      have nDq := ne_of_none e1 hq
      refine ⟨_, rfl, _, rfl, kk, _, rfl, .inl (SqL.of (s1 _ _ ek)), rfl, flat_strs _, .inr ⟨_, rfl, ?_⟩⟩
      have hv : atI [V.int z.2, V.int 1] (if (inV (V.str z.1) (st.map V.str)) = true then 1 else 0) = some (.int (if z.1 ∈ st then 1 else z.2)) := by
        rw [inV_str]
        by_cases c : z.1 ∈ st
        · rw [decide_eq_true c, if_pos rfl, if_pos c]; rfl
        · rw [decide_eq_false c, if_neg Bool.false_ne_true, if_neg c]; rfl
      refine ⟨q, _, _, .int (if z.1 ∈ st then 1 else z.2), rfl, rfl, SqL.of upd_same, hv, (by show 2 ≤ sizeLine; decide), fun t ht => ?_⟩
      have e1' : (upd H1 q (.lst [.int z.2, .int 1])) D = some (.lst vs) := by rw [upd_ne nDq]; exact e1
      have nDt := ne_of_none e1' ht
      have s2 := same_newK s1 (o := .tup [.str z.1, .int (if z.1 ∈ st then 1 else z.2)]) ht
      refine ⟨_, by rw [upd_ne nDt]; exact e1', small1000 (by omega), vs ++ [.ref t], upd_same, ?_, same_upd s2 hD⟩
      have hz2 : (callS st s)[i]? = some (z.1, if z.1 ∈ st then 1 else z.2) := get_map (f := fun p : Str × Int => (p.1, if p.1 ∈ st then 1 else p.2)) hz
      rw [take_succ hz2, List.map_append]
      refine TpA.snoc (e2.mono ?_) (tp_sl_of (p := (z.1, if z.1 ∈ st then 1 else z.2)) ?_)
      · exact ((tx_new hq).trans (tx_new ht)).trans (tx_updL (by rw [upd_ne nDt]; exact e1'))
      · show (upd _ D _) t = _
        rw [upd_ne nDt.symm]; exact upd_same
    · rintro H1 ⟨vs, e1, e2, e3⟩
      rw [lx, show s.length = (callS st s).length from (List.length_map _).symm, List.take_length] at e2
      obtain ⟨as, rfl, pa⟩ := pairs_tpa (K := K) e2
      refine ⟨D, as, kvS (callS st s), rfl, SqL.of e1, pa, fun q hq => ?_⟩
      have okc := ok.call st
      have ascC : Asc (nms (callS st s)) := by
        have := okc.nm
        unfold nms
        rw [this]; exact asc
      have hm : mergeK [] (kvS (callS st s)) = kvS (callS st s) := merge_self (callS st s) [] (by rw [List.nil_append]; exact ascC.nodup)
      rw [hm]
      have s2 := same_newK e3 (o := .dK (kvS (callS st s))) hq
      have lc : (callS st s).length = s.length := List.length_map _
      refine ⟨_, rfl, _, rfl, p, q, rows, callS st s, rfl, s2 _ _ ep, upd_same, ascC, by omega, by omega, fun H2 t d2 u s3 et2 ed2 eu2 => ?_⟩
      refine ⟨t, _, rfl, SqT.of et2, rfl, _, _, rfl, _, _, rfl, rfl, ?_⟩
      have okb : nms (beatS rows (callS st s)) = nms (callS st s) := by unfold nms beatS; rw [List.map_map]; rfl
      refine ⟨_, rfl, d2, beatS rows (callS st s), rfl, ed2, by rw [okb]; exact ascC.nodup, by rw [show (beatS rows (callS st s)).length = (callS st s).length from List.length_map _]; omega, fun H3 v3 s4 tv3 => ?_⟩
      have ascB := ascC
      rw [← okb] at ascB
      rw [sortSl_self ascB] at tv3
      refine ⟨_, rfl, (by show 2 ≤ sizeLine; decide), fun t2 ht2 => k _ t2 u v3 (same_newK ((s2.trans s3).trans s4) ht2) upd_same (tv3.mono (tx_new ht2)) ?_⟩
      rw [upd_ne (ne_of_none (s4 _ _ eu2) ht2)]
      exact s4 _ _ eu2
-- _law_strokes: slots 0 _law_bag_here*, 1 _law_names_here, 2 _law_bound, 3 _law_found, 4 _law_k, 5 _law_stroke, 6 _law_name
abbrev S__law_strokes : Stmt := (topS 42)
abbrev N__law_strokes : List Str := ["_law_bag_here", "_law_names_here", "_law_bound", "_law_found", "_law_k", "_law_stroke", "_law_name"]
theorem sc__law_strokes : FnScope N__law_strokes ["_law_bag_here", "_law_names_here", "_law_bound"] (defScope S__law_strokes) := ⟨rfl, rfl, rfl, by decide +kernel, rfl, by decide +kernel, by decide +kernel⟩
def sp_strokes : Sp := fun vs H Q _ => ∃ (b a : Addr) (ns : List Int) (p : Addr) (xs : List Str) (m : Int), vs = [.ref b, .ref p, .int m] ∧ Bag H b a ns ∧ H p = some (.lst (xs.map V.str)) ∧ xs.length ≤ 40 ∧ 1 ≤ m ∧ m ≤ 20 ∧
  ∀ (H' : Hp) (q : Addr) (l : List (Addr × List Str)), Kp H H' → Bag H' b a ns → SS H' q l → 1 ≤ l.length → l.length ≤ 30 → (∀ x ∈ l, x.2.length ≤ 40) → Q (.ref q) H'
theorem ok_strokes {f : Addr} {fd : FuncData} (F : Fun K "_law_strokes" "_law_strokes" S__law_strokes f fd) (T : Txt K mg C) (D_law_take : Fd P w K mg base CX0 1 "_law_take" fT fdT ["_law_bag_here", "_law_many"] sp_take) :
    FnOk P w K mg base CX0 2 f fd ["_law_bag_here", "_law_names_here", "_law_bound"] sp_strokes := by
  refine F.ok sc__law_strokes (fun vs H Q E h => ?_) (fun cdv A outer s H vs Q E hr h => ?_)
  · obtain ⟨b, a, ns, p, xs, m, rfl, _⟩ := h
    rfl
  · obtain ⟨b, a, ns, p, xs, m, rfl, B, ep, lx, h1, h2, k⟩ := h
    refine ⟨_, (pss_cons (ps_set (i := 3) sc__law_strokes.nd rfl (Or.inl rfl) (pe_slice sl_list (pe_lst (pa_cons (pe_lst pa_nil) pa_nil)) po_none (po_some (pe_call D_law_take.ok (hr.mono (by decide)) rfl D_law_take.m D_law_take.kp D_law_take.b .nil pass0 (pa_cons (pv 0) (pa_cons pe_int pa_nil))))))
      (pss_cons (ps_for PassesOwn.never rfl (pi_range1 rfl T.b_range (pa_cons (pe_op op_add pe_int (pe_call D_law_take.ok (hr.mono (by decide)) rfl D_law_take.m D_law_take.kp D_law_take.b .nil pass0 (pa_cons (pv 0) (pa_cons (pv 2) pa_nil)))) pa_nil)) (pg_name (i := 4) sc__law_strokes.nd rfl (Or.inl rfl))
        (pss_cons (ps_setLc (i := 5) (own := [("_law_name", 6)]) (g := (gName 6)) rfl sc__law_strokes.nd rfl rfl (sw_true rfl rfl rfl (by decide +kernel)) (pi_list (pe_callB cr_sortedS (by rfl) T.b_sorted (by decide +kernel) (pa_cons (pv 1) pa_nil))) (blkOk_by (own := [("_law_name", 6)]) (N := N__law_strokes) (sc := defScope S__law_strokes) (by decide +kernel)) (fun _ _ _ _ _ => (pg_name (i := 6) sc__law_strokes.nd rfl (Or.inl rfl))) (fun _ _ _ _ _ => (pts_one (pt_cmpR op_eq (pe_call D_law_take.ok (hr.mono (by decide)) rfl D_law_take.m D_law_take.kp D_law_take.b .nil pass0 (pa_cons (pv 0) (pa_cons pe_int pa_nil))) pe_int (nomark _)))) (fun _ _ _ _ _ => (pv 6)))
        (pss_one (ps_if (pt_cmpR (op_notInE hr.units) (pv 5) (pv 3) (by rfl)) (pss_one (ps_expr (pe_bm PySem.F.plainAttrs_list PySem.F.slot_list_append PySem.F.type_list_append mt_append (pv 3) (pa_cons (pv 5) pa_nil)))) pss_nil))))
      (pss_one (ps_ret (pv 3))))), ?_⟩
    refine ⟨(by show 0 ≤ sizeLine; decide), fun e he => ⟨(by show 1 ≤ sizeLine; decide), fun f0 hf0 => ?_⟩⟩
    have G0 := ((BK.start B).new (o := .lst []) he).new (o := .lst [.ref e]) hf0
    refine ⟨_, rfl, b, a, ns, 3, rfl, G0.bg, by decide, by decide, fun H1 v k1 B1 v1 v2 => ⟨v, rfl, f0, _, rfl, SqL.of (k1.get upd_same), fun q hq => ?_⟩⟩
    rw [cut_take v1]
    have G1 := (G0.step k1 B1).new (o := .lst ([V.ref e].take v.toNat)) hq
    have q0 : H q = none := (G0.step k1 B1).kp.free hq
    have ee : H1 e = some (.lst []) := k1.get (by rw [upd_ne (ne_of_none upd_same hf0)]; exact upd_same)
    have S1 : SS (upd H1 q (.lst ([V.ref e].take v.toNat))) q ([(e, ([] : List Str))].take v.toNat) := by
      refine ⟨by rw [upd_same, List.map_take]; rfl, fun x hx => ?_⟩
      have : x = (e, []) := List.mem_singleton.mp (List.mem_of_mem_take hx)
      subst this
      show (upd H1 q _) e = _
      rw [upd_ne (ne_of_none ee hq)]
      exact ee
    have ep1 : (upd H1 q (.lst ([V.ref e].take v.toNat))) p = some (.lst (xs.map V.str)) := G1.kp.get ep (strs_nobag _)
    refine ⟨_, rfl, _, rfl, b, a, ns, m, rfl, G1.bg, h1, by omega, fun H2 n k2 B2 n1 n2 => ⟨_, _, rfl, rfl, 1 + n, rfl, by omega, by omega, for_range (lo := 0) (n := (1 + n).toNat) (fun i σ H' => ∃ (l : List (Addr × List Str)) (v4 v5 : Option V), σ = [some (.ref b), some (.ref p), some (.int m), some (.ref q), v4, v5, none] ∧ BK b a ns H H' ∧ SS H' q l ∧ l.length ≤ i + 1 ∧ (1 ≤ i → 1 ≤ l.length) ∧ (∀ x ∈ l, x.2.length ≤ 40)) ?_ ?_ ?_⟩⟩
    · refine ⟨[(e, ([] : List Str))].take v.toNat, none, none, rfl, G1.step k2 B2, S1.kp k2, ?_, fun z => absurd z (by decide), fun x hx => ?_⟩
      · rw [List.length_take]; exact Nat.min_le_right _ _
      · have : x = (e, []) := List.mem_singleton.mp (List.mem_of_mem_take hx)
        subst this
        exact Nat.zero_le _
    · rintro i σ H' hi ⟨l, v4, v5, rfl, G, S, c1, c2, c3⟩
      refine ⟨_, rfl, p, xs, rfl, SqL.of (G.kp.get ep (strs_nobag _)), by omega, fun ys r pm so hr0 => ?_⟩
      have ly : ys.length ≤ 40 := by rw [pm.length_eq]; exact lx
      have G2 := G.new (o := .lst (ys.map V.str)) hr0
      refine ⟨r, rfl, ⟨_, SqL.of upd_same⟩, fun D hD => lc_list (K := K) (a := r) (xs := ys.map V.str) (fun j H3 => ∃ zs : List Str, BK b a ns H H3 ∧ H3 D = some (.lst (zs.map V.str)) ∧ zs.length ≤ j ∧ H3 r = some (.lst (ys.map V.str)) ∧ SS H3 q l) ?_ ?_ ?_ ?_⟩
      · refine ⟨[], G2.new hD, upd_same, Nat.le_refl _, ?_, ?_⟩
        · rw [upd_ne (ne_of_none upd_same hD)]; exact upd_same
        · exact S.same (same_newK (same_newK (fun _ _ h => h) hr0) hD)
      · rintro j H3 _ ⟨zs, _, _, _, e4, _⟩
        exact SqL.of e4
      · rintro j x H3 hj ⟨zs, G3, e2, e3, e4, S3⟩
        obtain ⟨y, hy, rfl⟩ := map_get hj
        have hjl : j < ys.length := (List.getElem?_eq_some_iff.mp hy).1
        refine ⟨rfl, _, rfl, b, a, ns, 3, rfl, G3.bg, by decide, by decide, fun H4 u k4 B4 _ _ => ⟨rfl, _, rfl, iteB (fun _ => ?_) (fun _ => ?_)⟩⟩
        · have G4 := G3.step k4 B4
          have e2' := k4.get e2 (strs_nobag _)
          have D0 : H D = none := G2.kp.free hD
          refine ⟨_, rfl, _, e2', ?_, zs ++ [y], G4.upd D0, ?_, ?_, ?_, ?_⟩
          · rw [List.length_map]; exact small1000 (by omega)
          · rw [upd_same, List.map_append]; rfl
          · rw [List.length_append]; exact Nat.succ_le_succ e3
          · have nDr : r ≠ D := ne_of_none upd_same hD
            rw [upd_ne nDr]; exact k4.get e4 (strs_nobag _)
          · exact (S3.kp k4).upd ((S.new hr0).ne hD)
        · exact ⟨zs, G3.step k4 B4, k4.get e2 (strs_nobag _), by omega, k4.get e4 (strs_nobag _), S3.kp k4⟩
      · rintro H3 ⟨zs, G3, e2, e3, e4, S3⟩
        have lz : zs.length ≤ 40 := by rw [List.length_map] at e3; omega
        have nD := (S.new (o := .lst (ys.map V.str)) hr0).ne hD
        have iS : (1 : Nat) ≤ l.length ∨ zs ∉ l.map (·.2) := by
          cases l with
          | nil => exact .inr (by simp)
          | cons _ _ => exact .inl (Nat.succ_le_succ (Nat.zero_le _))
        refine ⟨_, rfl, _, rfl, List Str, inferInstance, dStrs, zs, l.map (·.2), encS, dp_strs e2, dp_SS S3, _, rfl, iteDN (fun c => ?_) (fun c => ?_)⟩
        · refine ⟨_, rfl, .inl ⟨rfl, _, SqL.of S3.1⟩, _, rfl, q, _, _, rfl, rfl, S3.1, ?_, ?_⟩
          · rw [List.length_map]; exact small1000 (by omega)
          · refine ⟨l ++ [(D, zs)], _, _, rfl, G3.upd q0, S3.snoc e2 nD.1.symm, ?_, fun _ => ?_, fun x hx => ?_⟩
            · rw [List.length_append]; exact Nat.succ_le_succ c1
            · rw [List.length_append]; exact Nat.le_add_left _ _
            · rcases List.mem_append.mp hx with z | z
              · exact c3 x z
              · have : x = (D, zs) := List.mem_singleton.mp z
                subst this; exact lz
        · refine ⟨l, _, _, rfl, G3, S3, by omega, fun _ => ?_, c3⟩
          rcases iS with z | z
          · exact z
          · exact absurd c z
    · rintro σ H' ⟨l, v4, v5, rfl, G, S, c1, c2, c3⟩
      refine ⟨_, rfl, k H' q l G.kp G.bg S (c2 (by omega)) (by omega) c3⟩
end
end L2.K83

set_option Elab.async false
set_option linter.all false
set_option maxRecDepth 100000
set_option maxHeartbeats 4000000
/-! Two halls. -/
namespace L2.K83
open PySem PySem.Spec PyProof.Rows L2.KB
section
variable {P : Program} {w : World} {K : PySem.W.Frag} {mg : Str → Option Value} {base : Heap} {C : Addr} {fT fH fS fO fK : Addr} {fdT fdH fdS fdO fdK : FuncData}
-- _law_halls: slots 0 _law_bag_here, 1 _law_size, 2 _law_top, 3 _law_longest, 4 _law_spans_here, 5 _law_rests_here, 6 _law_others, 7 _law_more, 8 _law_second, 9 _law_name, 10 _law_strokes_here
abbrev S__law_halls : Stmt := (topS 44)
abbrev N__law_halls : List Str := ["_law_bag_here", "_law_size", "_law_top", "_law_longest", "_law_spans_here", "_law_rests_here", "_law_others", "_law_more", "_law_second", "_law_name", "_law_strokes_here"]
theorem sc__law_halls : FnScope N__law_halls ["_law_bag_here", "_law_size", "_law_top", "_law_longest"] (defScope S__law_halls) := ⟨rfl, rfl, rfl, by decide +kernel, rfl, by decide +kernel, by decide +kernel⟩
def sp_halls : Sp := fun vs H Q _ => ∃ (b a : Addr) (ns : List Int) (m top lon : Int), vs = [.ref b, .int m, .int top, .int lon] ∧ Bag H b a ns ∧ 1 ≤ m ∧ m ≤ 30 ∧ 1 ≤ top ∧ top ≤ 100 ∧ 1 ≤ lon ∧ lon ≤ 100 ∧
  ∀ (H' : Hp) (t p1 p2 p4 : Addr) (v3 : V) (c : Bool) (r1 r2 : List Int) (s1 s2 : St0) (l : List (Addr × List Str)) (nm : List Str), Kp H H' → Bag H' b a ns → H' t = some (.tup [.ref p1, .ref p2, v3, .ref p4, .bl c]) → H' p1 = some (.lst (r1.map V.int)) → H' p2 = some (.lst (r2.map V.int)) →
    Tp H' v3 (dPr (s1, s2)) → SS H' p4 l → OkR nm r1 → OkR nm r2 → OkP nm (s1, s2) → Asc nm → 1 ≤ l.length → l.length ≤ 8 → (∀ x ∈ l, x.2.length ≤ 40) → Q (.ref t) H'
theorem ok_halls {f : Addr} {fd : FuncData} (F : Fun K "_law_halls" "_law_halls" S__law_halls f fd) (T : Txt K mg C) (D_law_take : Fd P w K mg base CX0 1 "_law_take" fT fdT ["_law_bag_here", "_law_many"] sp_take)
    (D_law_hall : Fd P w K mg base CX0 3 "_law_hall" fH fdH ["_law_bag_here", "_law_many", "_law_top", "_law_longest"] sp_hall) (D_law_other_spans : Fd P w K mg base CX0 2 "_law_other_spans" fO fdO ["_law_bag_here", "_law_spans_here", "_law_top"] sp_other)
    (D_law_stand : Fd P w K mg base CX0 1 "_law_stand" fS fdS ["_law_rests_here"] sp_stand) (D_law_strokes : Fd P w K mg base CX0 2 "_law_strokes" fK fdK ["_law_bag_here", "_law_names_here", "_law_bound"] sp_strokes) :
    FnOk P w K mg base CX0 4 f fd ["_law_bag_here", "_law_size", "_law_top", "_law_longest"] sp_halls := by
  refine F.ok sc__law_halls (fun vs H Q E h => ?_) (fun cdv A outer s H vs Q E hr h => ?_)
  · obtain ⟨b, a, ns, m, top, lon, rfl, _⟩ := h
    rfl
  · obtain ⟨b, a, ns, m, top, lon, rfl, B, h1, h2, h3, h4, h5, h6, k⟩ := h
    refine ⟨_, (pss_cons (ps_asg (pe_call D_law_hall.ok (hr.mono (by decide)) rfl D_law_hall.m D_law_hall.kp D_law_hall.b .nil pass0 (pa_cons (pv 0) (pa_cons (pv 1) (pa_cons (pv 2) (pa_cons (pv 3) pa_nil))))) (pg_tup rfl (pgs_cons (pg_name (i := 4) sc__law_halls.nd rfl (Or.inl rfl)) (pgs_cons (pg_name (i := 5) sc__law_halls.nd rfl (Or.inl rfl)) pgs_nil))))
      (pss_cons (ps_set (i := 6) sc__law_halls.nd rfl (Or.inl rfl) (pe_call D_law_other_spans.ok (hr.mono (by decide)) rfl D_law_other_spans.m D_law_other_spans.kp D_law_other_spans.b .nil pass0 (pa_cons (pv 0) (pa_cons (pv 4) (pa_cons (pv 2) pa_nil)))))
      (pss_cons (ps_set (i := 7) sc__law_halls.nd rfl (Or.inl rfl) (pe_slice sl_list (pe_op op_cat (pv 6) (pe_lst (pa_cons (pe_op op_add pe_int (pe_call D_law_take.ok (hr.mono (by decide)) rfl D_law_take.m D_law_take.kp D_law_take.b .nil pass0 (pa_cons (pv 0) (pa_cons (pv 2) pa_nil)))) pa_nil))) po_none (po_some pe_int)))
      (pss_cons (ps_set (i := 6) sc__law_halls.nd rfl (Or.inl rfl) (pe_ix ix_list (pe_lst (pa_cons (pv 6) (pa_cons (pv 7) (pa_cons (pe_slice sl_list (pv 6) po_none (po_some (pe_callB (call_max2 rfl) (by rfl) T.b_max (by decide +kernel) (pa_cons pe_int (pa_cons (pe_callB call_lenD (by rfl) T.b_len PySem.boot_len (pa_cons (pv 5) pa_nil)) pa_nil))))) pa_nil)))) (pe_call D_law_take.ok (hr.mono (by decide)) rfl D_law_take.m D_law_take.kp D_law_take.b .nil pass0 (pa_cons (pv 0) (pa_cons pe_int pa_nil))) (fun _ _ => rfl)))
      (pss_cons (ps_set (i := 8) sc__law_halls.nd rfl (Or.inl rfl) (pe_callTy call_dictD (by rfl) T.b_dict (by decide +kernel) (pa_cons (pv 5) pa_nil)))
      (pss_cons (ps_for PassesOwn.never rfl (pi_list (pe_callB (call_sortedD rfl) (by rfl) T.b_sorted (by decide +kernel) (pa_cons (pv 5) pa_nil))) (pg_name (i := 9) sc__law_halls.nd rfl (Or.inl rfl))
        (pss_one (ps_if (pt_cmpR op_eq (pe_call D_law_take.ok (hr.mono (by decide)) rfl D_law_take.m D_law_take.kp D_law_take.b .nil pass0 (pa_cons (pv 0) (pa_cons pe_int pa_nil))) pe_int (nomark _)) (pss_one (ps_dput (hu_of hr) (pv 8) (pv 9) (pe_op op_add pe_int (pe_call D_law_take.ok (hr.mono (by decide)) rfl D_law_take.m D_law_take.kp D_law_take.b .nil pass0 (pa_cons (pv 0) (pa_cons (pv 3) pa_nil)))) rfl)) pss_nil)))
      (pss_cons (ps_set (i := 8) sc__law_halls.nd rfl (Or.inl rfl) (pe_ix ix_list (pe_lst (pa_cons (pv 8) (pa_cons (pe_callTy call_dictD (by rfl) T.b_dict (by decide +kernel) (pa_cons (pv 5) pa_nil)) (pa_cons (pe_callTy call_dictD (by rfl) T.b_dict (by decide +kernel) (pa_cons (pv 5) pa_nil)) pa_nil)))) (pe_call D_law_take.ok (hr.mono (by decide)) rfl D_law_take.m D_law_take.kp D_law_take.b .nil pass0 (pa_cons (pv 0) (pa_cons pe_int pa_nil))) (fun _ _ => rfl)))
      (pss_cons (ps_set (i := 10) sc__law_halls.nd rfl (Or.inl rfl) (pe_slice sl_list (pe_call D_law_strokes.ok (hr.mono (by decide)) rfl D_law_strokes.m D_law_strokes.kp D_law_strokes.b .nil pass0 (pa_cons (pv 0) (pa_cons (pe_callTy (call_list_dK rfl) (by rfl) T.b_list (by decide +kernel) (pa_cons (pv 5) pa_nil)) (pa_cons (pe_ix ix_list (pe_lst (pa_cons pe_int (pa_cons pe_int (pa_cons pe_int pa_nil)))) (pe_call D_law_take.ok (hr.mono (by decide)) rfl D_law_take.m D_law_take.kp D_law_take.b .nil pass0 (pa_cons (pv 0) (pa_cons pe_int pa_nil))) (fun _ _ => rfl)) pa_nil)))) po_none (po_some pe_int)))
      (pss_one (ps_ret (pe_tup (pa_cons (pv 4) (pa_cons (pv 6) (pa_cons (pe_tup (pa_cons (pe_call D_law_stand.ok (hr.mono (by decide)) rfl D_law_stand.m D_law_stand.kp D_law_stand.b .nil pass0 (pa_cons (pv 5) pa_nil)) (pa_cons (pe_call D_law_stand.ok (hr.mono (by decide)) rfl D_law_stand.m D_law_stand.kp D_law_stand.b .nil pass0 (pa_cons (pv 8) pa_nil)) pa_nil))) (pa_cons (pv 10) (pa_cons (pe_cmpR op_eq (pe_call D_law_take.ok (hr.mono (by decide)) rfl D_law_take.m D_law_take.kp D_law_take.b .nil pass0 (pa_cons (pv 0) (pa_cons pe_int pa_nil))) pe_int (nomark _)) pa_nil)))))))))))))))), ?_⟩
    refine ⟨_, rfl, _, rfl, _, rfl, _, rfl, b, a, ns, m, top, lon, rfl, B, h1, h2, h3, h4, h5, h6, fun H1 t p d xs zs k1 B1 et ep ed L l30 R lz => ⟨t, _, rfl, SqT.of et, rfl, _, _, rfl, _, _, rfl, rfl, ?_⟩⟩
    have G1 : BK b a ns H H1 := ⟨B, k1, B1⟩
    refine ⟨_, rfl, _, rfl, _, rfl, b, a, ns, p, xs, top, rfl, B1, ep, L, h3, h4, fun H2 q ys k2 B2 eq Ly ly => ?_⟩
    have G2 := G1.step k2 B2
    -- more
    refine ⟨_, rfl, _, rfl, _, rfl, b, a, ns, top, rfl, B2, h3, by omega, fun H3 v3 k3 B3 a1 a2 => ⟨_, _, rfl, rfl, (by show 1 ≤ sizeLine; decide), fun e he => ?_⟩⟩
    have G3 := (G2.step k3 B3).new (o := .lst [.int (1 + v3)]) he
    have eq3 : H3 q = some (.lst (ys.map V.int)) := k3.get eq (ints_nobag _)
    have eq3' : (upd H3 e (.lst [.int (1 + v3)])) q = some (.lst (ys.map V.int)) := by rw [upd_ne (ne_of_none eq3 he)]; exact eq3
    refine ⟨q, e, _, _, rfl, rfl, eq3', upd_same, ?_, fun c hc => ⟨40, rfl, c, _, rfl, SqL.of upd_same, fun mo hmo => ?_⟩⟩
    · rw [List.length_map]
      have := Ly.2.1
      exact Nat.le_of_lt (small1000 (by show ys.length + 1 ≤ 1000; omega))
    have em : cutV (ys.map V.int ++ [.int (1 + v3)]) none (some 40) = (((ys ++ [1 + v3]).take 40).map V.int) := by
      rw [cut_take (by decide), List.map_take, List.map_append]; rfl
    rw [em]
    have G4 := (G3.new (o := .lst (ys.map V.int ++ [.int (1 + v3)])) hc).new (o := .lst (((ys ++ [1 + v3]).take 40).map V.int)) hmo
    generalize hH4 : upd (upd (upd H3 e (.lst [.int (1 + v3)])) c (.lst (ys.map V.int ++ [.int (1 + v3)]))) mo (.lst (((ys ++ [1 + v3]).take 40).map V.int)) = H4 at G4
    have k34 : Kp H3 H4 := by rw [← hH4]; exact (((Kp.refl _).new he).new hc).new hmo
    have emo : H4 mo = some (.lst (((ys ++ [1 + v3]).take 40).map V.int)) := by rw [← hH4]; exact upd_same
    have eq4 := k34.get eq3 (ints_nobag _)
    have ed4 : H4 d = some (.dK (kvS zs)) := k34.get (k3.get (k2.get ed))
    have ep4 : H4 p = some (.lst (xs.map V.int)) := k34.get (k3.get (k2.get ep (ints_nobag _)) (ints_nobag _)) (ints_nobag _)
    clear hH4 em
    -- others
    refine ⟨_, rfl, _, rfl, _, rfl, _, rfl, d, _, rfl, ed4, 1, _, rfl, _, rfl, q, _, rfl, SqL.of eq4, fun sl hsl => ⟨(by show 3 ≤ sizeLine; decide), fun li hli => ?_⟩⟩
    have mx0 : 0 ≤ (if ((kvS zs).length : Int) > 1 then ((kvS zs).length : Int) else 1) := by split <;> omega
    rw [cut_take mx0, ← List.map_take]
    rw [cut_take mx0, ← List.map_take] at hli
    generalize hmx : (if ((kvS zs).length : Int) > 1 then ((kvS zs).length : Int) else 1).toNat = mx at hli ⊢
    have hmx' : 1 ≤ mx ∧ zs.length ≤ mx := by
      rw [← hmx, kvS_len]
      constructor
      · split <;> omega
      · split <;> omega
    have G5 := (G4.new (o := .lst ((ys.take mx).map V.int)) hsl).new (o := .lst [.ref q, .ref mo, .ref sl]) hli
    refine ⟨_, rfl, b, a, ns, 3, rfl, G5.bg, by decide, by decide, fun H5 v5 k5 B5 c1 c2 => ?_⟩
    have G6 := G5.step k5 B5
    have k45 : Kp H4 H5 := (((Kp.refl _).new hsl).new hli).trans k5
    have eli : H5 li = some (.lst [.ref q, .ref mo, .ref sl]) := k5.get upd_same
    have esl : H5 sl = some (.lst ((ys.take mx).map V.int)) := k5.get (by rw [upd_ne (ne_of_none upd_same hli)]; exact upd_same) (ints_nobag _)
    have lL := Ly.2.1
    have lY := Ly.1
    obtain ⟨o2, r2, hat, ho2, L2, lz2⟩ : ∃ (o2 : Addr) (r2 : List Int), atI [V.ref q, V.ref mo, V.ref sl] v5 = some (.ref o2) ∧ H5 o2 = some (.lst (r2.map V.int)) ∧ Lens r2 ∧ zs.length ≤ r2.length := by
      have : v5 = 0 ∨ v5 = 1 ∨ v5 = 2 := by omega
      rcases this with rfl | rfl | rfl
      · exact ⟨q, ys, rfl, k45.get eq4 (ints_nobag _), Ly, by omega⟩
      · refine ⟨mo, _, rfl, k45.get emo (ints_nobag _), ⟨?_, ?_, fun x hx => all_snoc Ly.2.2 (by omega) x (List.mem_of_mem_take hx)⟩, ?_⟩
        · rw [List.length_take, List.length_append]; show 1 ≤ min 40 (ys.length + 1); omega
        · rw [List.length_take]; exact Nat.min_le_left _ _
        · rw [List.length_take, List.length_append]; show zs.length ≤ min 40 (ys.length + 1); omega
      · refine ⟨sl, _, rfl, esl, ⟨?_, ?_, fun x hx => Ly.2.2 x (List.mem_of_mem_take hx)⟩, ?_⟩
        · rw [List.length_take]; omega
        · rw [List.length_take]; omega
        · rw [List.length_take]; omega
    refine ⟨li, _, v5, _, rfl, rfl, SqL.of eli, hat, ?_⟩
    have ed5 := k45.get ed4
    have ep5 := k45.get ep4 (ints_nobag _)
    -- second
    refine ⟨_, rfl, d, _, rfl, Rd.of ed5, fun d2 hd2 => ?_⟩
    have G7 := G6.new (o := .dK (kvS zs)) hd2
    have d20 := G6.kp.free hd2
    have ed7 : (upd H5 d2 (.dK (kvS zs))) d = some (.dK (kvS zs)) := by rw [upd_ne (ne_of_none ed5 hd2)]; exact ed5
    refine ⟨_, rfl, d, kvS zs, nms zs, rfl, Rd.of ed7, kvS_keys zs, ?_, fun nn r pm so hr0 => ⟨r, rfl, ⟨_, SqL.of upd_same⟩, ?_⟩⟩
    · have := R.2.1
      rw [show (nms zs).length = zs.length from List.length_map _]; omega
    refine for_list (K := K) (a := r) (xs := nn.map V.str) (fun i σ H' => ∃ (z2 : St0) (v7 v9 : Option V), σ = [some (.ref b), some (.int m), some (.int top), some (.int lon), some (.ref p), some (.ref d), some (.ref o2), v7, some (.ref d2), v9, none] ∧ BK b a ns H H' ∧ Kp H5 H' ∧ H' d2 = some (.dK (kvS z2)) ∧ nms z2 = nms zs ∧ (∀ z ∈ z2, 1 ≤ z.2 ∧ z.2 ≤ 1000) ∧ H' r = some (.lst (nn.map V.str))) ?_ ?_ ?_ ?_
    · exact ⟨zs, _, none, rfl, G7.new hr0, (((Kp.refl _).new hd2).new hr0), by rw [upd_ne (ne_of_none upd_same hr0)]; exact upd_same, rfl, R.2.2, upd_same⟩
    · rintro i σ H' _ ⟨z2, v7, v9, rfl, _, _, _, _, _, e⟩
      exact SqL.of e
    · rintro i x σ H' hi ⟨z2, v7, v9, rfl, G, kk, e1, e2, e3, e4⟩
      obtain ⟨n, hn, rfl⟩ := map_get hi
      have hin : n ∈ nms z2 := by rw [e2]; exact pm.mem_iff.mp (List.mem_of_getElem? hn)
      have lz : z2.length = zs.length := by have := congrArg List.length e2; unfold nms at this; rw [List.length_map, List.length_map] at this; exact this
      have lR := R.2.1
      refine ⟨_, rfl, b, a, ns, 6, rfl, G.bg, by decide, by decide, fun H7 v8 k7 B7 _ _ => ⟨rfl, _, rfl, iteB (fun _ => ?_) (fun _ => ?_)⟩⟩
      · refine ⟨_, rfl, _, rfl, b, a, ns, lon, rfl, B7, h5, by omega, fun H8 u k8 B8 u1 u2 => ⟨_, _, rfl, rfl, _, rfl, _, rfl, d2, _, rfl, DPut.k (k := Sum.inr n) (k8.get (k7.get e1)) (by rw [kvS_len]; exact small1000 (by omega)), ?_⟩⟩
        have G8 := (G.step k7 B7).step k8 B8
        refine ⟨putS z2 n (1 + u), _, _, rfl, G8.upd d20, (kk.trans (k7.trans k8)).upd (.inl hd2), ?_, ?_, putS_all (P := fun x => 1 ≤ x ∧ x ≤ 1000) e3 (by omega), ?_⟩
        · rw [upd_same, putK_kvS]
        · rw [putS_nms, if_pos hin]; exact e2
        · have nrd : r ≠ d2 := ne_of e4 e1 (by intro z; cases z)
          rw [upd_ne nrd]
          exact k8.get (k7.get e4 (strs_nobag _)) (strs_nobag _)
      · exact ⟨z2, _, _, rfl, G.step k7 B7, kk.trans k7, k7.get e1, e2, e3, k7.get e4 (strs_nobag _)⟩
    · rintro σ H6 ⟨z2, v7, v9, rfl, G, kk, e1, e2, e3, e4⟩
      have ed6 := kk.get ed5
      have lR := R.2.1
      refine ⟨_, rfl, _, rfl, d, _, rfl, Rd.of ed6, fun d3 hd3 => ?_⟩
      have ed6' : (upd H6 d3 (.dK (kvS zs))) d = some (.dK (kvS zs)) := by rw [upd_ne (ne_of_none ed6 hd3)]; exact ed6
      refine ⟨_, rfl, d, _, rfl, Rd.of ed6', fun d4 hd4 => ⟨(by show 3 ≤ sizeLine; decide), fun l2 hl2 => ?_⟩⟩
      have G8 := ((G.new (o := .dK (kvS zs)) hd3).new (o := .dK (kvS zs)) hd4).new (o := .lst [.ref d2, .ref d3, .ref d4]) hl2
      have k68 := (((Kp.refl H6).new (o := .dK (kvS zs)) hd3).new (o := .dK (kvS zs)) hd4).new (o := .lst [.ref d2, .ref d3, .ref d4]) hl2
      have x3 : (upd (upd (upd H6 d3 (.dK (kvS zs))) d4 (.dK (kvS zs))) l2 (.lst [.ref d2, .ref d3, .ref d4])) d3 = some (.dK (kvS zs)) := by
        have n34 : d3 ≠ d4 := ne_of_none upd_same hd4
        have q : (upd (upd H6 d3 (.dK (kvS zs))) d4 (.dK (kvS zs))) d3 = some (.dK (kvS zs)) := by rw [upd_ne n34]; exact upd_same
        rw [upd_ne (ne_of_none q hl2)]; exact q
      have x4 : (upd (upd (upd H6 d3 (.dK (kvS zs))) d4 (.dK (kvS zs))) l2 (.lst [.ref d2, .ref d3, .ref d4])) d4 = some (.dK (kvS zs)) := by
        rw [upd_ne (ne_of_none upd_same hl2)]; exact upd_same
      refine ⟨_, rfl, b, a, ns, 3, rfl, G8.bg, by decide, by decide, fun H7 v k7 B7 c1' c2' => ?_⟩
      have G9 := G8.step k7 B7
      have k57 : Kp H5 H7 := (kk.trans k68).trans k7
      obtain ⟨ds, z3, hat3, hds, n3, r3⟩ : ∃ (ds : Addr) (z3 : St0), atI [V.ref d2, V.ref d3, V.ref d4] v = some (.ref ds) ∧ H7 ds = some (.dK (kvS z3)) ∧ nms z3 = nms zs ∧ ∀ z ∈ z3, 1 ≤ z.2 ∧ z.2 ≤ 1000 := by
        have : v = 0 ∨ v = 1 ∨ v = 2 := by omega
        rcases this with rfl | rfl | rfl
        · exact ⟨d2, z2, rfl, k7.get (k68.get e1), e2, e3⟩
        · exact ⟨d3, zs, rfl, k7.get x3, rfl, R.2.2⟩
        · exact ⟨d4, zs, rfl, k7.get x4, rfl, R.2.2⟩
      refine ⟨l2, _, v, _, rfl, rfl, SqL.of (k7.get upd_same), hat3, ?_⟩
      have ed7 := k57.get ed5
      -- strokes
      refine ⟨_, rfl, _, rfl, d, _, rfl, ed7, fun nl hnl => ⟨(by show 3 ≤ sizeLine; decide), fun l3 hl3 => ?_⟩⟩
      have ekk : ((kvS zs).map fun kv => kV kv.1) = (nms zs).map V.str := by unfold kvS nms; rw [List.map_map, List.map_map]; rfl
      rw [ekk] at hl3 ⊢
      have G10 := (G9.new (o := .lst ((nms zs).map V.str)) hnl).new (o := .lst [.int 2, .int 2, .int 7]) hl3
      have k710 := ((Kp.refl H7).new (o := .lst ((nms zs).map V.str)) hnl).new (o := .lst [.int 2, .int 2, .int 7]) hl3
      refine ⟨_, rfl, b, a, ns, 3, rfl, G10.bg, by decide, by decide, fun H8 v8 k8 B8 f1 f2 => ?_⟩
      have G11 := G10.step k8 B8
      obtain ⟨bd, hbd, ebd⟩ := pick (xs := [2, 2, 7]) f1 f2
      have hbd' : 1 ≤ bd ∧ bd ≤ 20 := by
        simp at hbd
        omega
      have enl : H8 nl = some (.lst ((nms zs).map V.str)) := k8.get (by rw [upd_ne (ne_of_none upd_same hl3)]; exact upd_same) (strs_nobag _)
      refine ⟨l3, _, v8, _, rfl, rfl, SqL.of (k8.get upd_same), ebd, b, a, ns, nl, nms zs, bd, rfl, B8, enl, by rw [show (nms zs).length = zs.length from List.length_map _]; omega, hbd'.1, hbd'.2, fun H9 sq l k9 B9 S9 g1 g2 g3 => ⟨8, rfl, sq, _, rfl, SqL.of S9.1, fun s8 hs8 => ?_⟩⟩
      rw [cut_take (by decide), ← List.map_take, show Int.toNat 8 = 8 from rfl]
      have G12 := (G11.step k9 B9).new (o := .lst ((l.take 8).map fun q => V.ref q.1)) hs8
      have S12 : SS (upd H9 s8 (.lst ((l.take 8).map fun q => V.ref q.1))) s8 (l.take 8) := ⟨upd_same, fun x hx => by
        have q := S9.2 x (List.mem_of_mem_take hx)
        rw [upd_ne (ne_of_none q hs8)]; exact q⟩
      have k512 : Kp H5 (upd H9 s8 (.lst ((l.take 8).map fun q => V.ref q.1))) := (((k57.trans k710).trans k8).trans k9).new hs8
      have k712 : Kp H7 (upd H9 s8 (.lst ((l.take 8).map fun q => V.ref q.1))) := (((k710).trans k8).trans k9).new hs8
      generalize hH12 : upd H9 s8 (.lst ((l.take 8).map fun q => V.ref q.1)) = H12 at G12 S12 k512 k712
      clear hH12
      have ed12 := k512.get ed5
      have nd := R.1
      refine ⟨_, rfl, _, rfl, _, rfl, d, zs, rfl, ed12, nd, lR, fun Ha va sa ta => ?_⟩
      refine ⟨_, rfl, ds, z3, rfl, sa _ _ (k712.get hds), by rw [n3]; exact nd, ?_, fun Hb vb sb tb => ⟨(by show 2 ≤ sizeLine; decide), fun tp htp => ?_⟩⟩
      · have := congrArg List.length n3
        unfold nms at this
        rw [List.length_map, List.length_map] at this
        omega
      have sab : Same H12 (upd Hb tp (.tup [va, vb])) := same_newK (sa.trans sb) htp
      have G13 := G12.same sab
      refine ⟨_, rfl, _, rfl, b, a, ns, 2, rfl, G13.bg, by decide, by decide, fun Hc vc kc Bc _ _ => ⟨rfl, (by show 5 ≤ sizeLine; decide), fun t5 ht5 => ?_⟩⟩
      have G14 := (G13.step kc Bc).new (o := .tup [.ref p, .ref o2, .ref tp, .ref s8, .bl (decide (V.int vc = V.int 1))]) ht5
      have k5f : Kp H5 (upd Hc t5 (.tup [.ref p, .ref o2, .ref tp, .ref s8, .bl (decide (V.int vc = V.int 1))])) := ((k512.trans (kp_same sab)).trans kc).new ht5
      have Tpr : Tp (upd Hb tp (.tup [va, vb])) (.ref tp) (dPr (sortSl zs, sortSl z3)) := tp_pr_of upd_same (ta.mono (tx_same (same_newK sb htp))) (tb.mono (tx_new htp))
      have nm3 : (sortSl z3).map (·.1) = (sortSl zs).map (·.1) := sortSl_names nd (by rw [show z3.map (·.1) = zs.map (·.1) from n3])
      have lnm : ((sortSl zs).map (·.1)).length = zs.length := by rw [List.length_map]; exact (sortSl_perm zs).length_eq
      refine k _ t5 p o2 s8 (.ref tp) _ xs r2 (sortSl zs) (sortSl z3) (l.take 8) ((sortSl zs).map (·.1)) G14.kp G14.bg upd_same (k5f.get ep5 (ints_nobag _)) (k5f.get ho2 (ints_nobag _)) (Tpr.mono (tx_kp (kc.new ht5))) ((S12.same sab).kp (kc.new ht5)) ?_ ?_ ?_ (sortSl_asc nd) ?_ ?_ (fun x hx => g3 x (List.mem_of_mem_take hx))
      · exact ⟨by rw [lnm]; exact lz, L.1, L.2.1, L.2.2⟩
      · exact ⟨by rw [lnm]; exact lz2, L2.1, L2.2.1, L2.2.2⟩
      · exact ⟨⟨rfl, fun x hx => (R.2.2 x ((sortSl_perm zs).mem_iff.mp hx)).1⟩, ⟨nm3, fun x hx => (r3 x ((sortSl_perm z3).mem_iff.mp hx)).1⟩⟩
      · rw [List.length_take]; omega
      · rw [List.length_take]; exact Nat.min_le_left _ _
end
end L2.K83

set_option Elab.async false
set_option linter.all false
set_option maxRecDepth 100000
set_option maxHeartbeats 4000000
/-! A row gone through, by the law's own beats. -/
namespace L2.K83
open PySem PySem.Spec PyProof.Rows L2.KB
section
variable {P : Program} {w : World} {K : PySem.W.Frag} {mg : Str → Option Value} {base : Heap} {C : Addr} {f1 f2 f3 f4 : Addr} {fd1 fd2 fd3 fd4 : FuncData}
theorem atI_neg1 {α : Type} {xs : List α} {n : Nat} {v : α} (hl : xs.length = n + 1) (h : xs[n]? = some v) : atI xs (-1) = some v := by
  unfold atI ixN
  rw [if_neg (by decide), if_pos (by omega)]
  show xs[(-1 + (xs.length : Int)).toNat]? = some v
  rw [hl, show (-1 + ((n + 1 : Nat) : Int)).toNat = n by omega]
  exact h
theorem tpa_last {H : Hp} {α : Type} {f : α → PyData} {vs : List V} {l : List α} {x : α} (h : TpA H vs ((l ++ [x]).map f)) : ∃ v, vs[l.length]? = some v ∧ Tp H v (f x) := by
  have e : ((l ++ [x]).map f)[l.length]? = some (f x) := get_map (by rw [List.getElem?_append_right (Nat.le_refl _), Nat.sub_self]; rfl)
  exact h.get' e
theorem strs_noref {ws : List V} {ys : List Str} {i : Nat} {x : Addr} (e : HO.lst ws = .lst (ys.map V.str)) (h : ws[i]? = some (.ref x)) : False := by
  injection e with e
  rw [e] at h
  obtain ⟨z, _, q⟩ := map_get h
  cases q
-- _law_gone: slots 0 _law_spans_here, 1 _law_others, 2 _law_stands, 3 _law_row, 4 _law_counted, 5 _law_pairs, 6 _law_unlike, 7 _law_at, 8 _law_here, 9 _law_up, 10 _law_there, 11 _law_ups
abbrev S__law_gone : Stmt := (topS 45)
abbrev N__law_gone : List Str := ["_law_spans_here", "_law_others", "_law_stands", "_law_row", "_law_counted", "_law_pairs", "_law_unlike", "_law_at", "_law_here", "_law_up", "_law_there", "_law_ups"]
theorem sc__law_gone : FnScope N__law_gone ["_law_spans_here", "_law_others", "_law_stands", "_law_row", "_law_counted"] (defScope S__law_gone) := ⟨rfl, rfl, rfl, by decide +kernel, rfl, by decide +kernel, by decide +kernel⟩
def sp_gone : Sp := fun vs H Q _ => ∃ (p1 p2 ra : Addr) (v : V) (r1 r2 : List Int) (p : St0 × St0) (l : List (Addr × List Str)) (nm : List Str) (hd : Bool), vs = [.ref p1, .ref p2, v, .ref ra, .bl hd] ∧ H p1 = some (.lst (r1.map V.int)) ∧ H p2 = some (.lst (r2.map V.int)) ∧ Tp H v (dPr p) ∧ SS H ra l ∧ OkR nm r1 ∧ OkR nm r2 ∧ OkP nm p ∧ Asc nm ∧ l.length ≤ 500 ∧
  ∀ (H' : Hp) (t L1 L2 : Addr) (ws : List V), Same H H' → H' t = some (.tup [.ref L1, .ref L2]) → H' L1 = some (.lst ws) → TpA H' ws ((gonePs r1 r2 p (l.map (·.2))).map dPr) → H' L2 = some (.lst ((goneUn r1 r2 hd p (l.map (·.2))).map V.int)) → Q (.ref t) H'
theorem ok_gone {f : Addr} {fd : FuncData} (F : Fun K "_law_gone" "_law_gone" S__law_gone f fd) (T : Txt K mg C) (D_law_called : Fd P w K mg base CX0 2 "_law_called" f1 fd1 ["_law_spans_here", "_law_stand_here", "_law_stroke"] sp_lcalled) :
    FnOk P w K mg base CX0 3 f fd ["_law_spans_here", "_law_others", "_law_stands", "_law_row", "_law_counted"] sp_gone := by
  refine F.ok sc__law_gone (fun vs H Q E h => ?_) (fun cdv A outer s H vs Q E hr h => ?_)
  · obtain ⟨p1, p2, ra, v, r1, r2, p, l, nm, hd, rfl, _⟩ := h
    rfl
  · obtain ⟨p1, p2, ra, v, r1, r2, p, l, nm, hd, rfl, e1, e2, tv, S, R1, R2, ok, asc, hl, k⟩ := h
    refine ⟨_, (pss_cons (ps_par (i := 5) (j := 6) (by rfl) sc__law_gone.nd rfl rfl (by decide) rfl rfl (pa_cons (pe_lst (pa_cons (pv 2) pa_nil)) (pa_cons (pe_lst pa_nil) pa_nil)) (by rfl))
      (pss_cons (ps_for PassesOwn.never rfl (pi_range1 rfl T.b_range (pa_cons (pe_callB call_len_seq (by rfl) T.b_len PySem.boot_len (pa_cons (pv 3) pa_nil)) pa_nil)) (pg_name (i := 7) sc__law_gone.nd rfl (Or.inl rfl))
        (pss_cons (ps_asg (pe_call D_law_called.ok (hr.mono (by decide)) rfl D_law_called.m D_law_called.kp D_law_called.b .nil pass0 (pa_cons (pv 0) (pa_cons (pe_ix ix_tup (pe_ix ix_list (pv 5) (pe_un un_neg pe_int) (fun _ _ => rfl)) pe_int (fun _ _ => rfl)) (pa_cons (pe_ix ix_list (pv 3) (pv 7) (fun _ _ => rfl)) pa_nil)))) (pg_tup rfl (pgs_cons (pg_name (i := 8) sc__law_gone.nd rfl (Or.inl rfl)) (pgs_cons (pg_name (i := 9) sc__law_gone.nd rfl (Or.inl rfl)) pgs_nil))))
        (pss_cons (ps_asg (pe_call D_law_called.ok (hr.mono (by decide)) rfl D_law_called.m D_law_called.kp D_law_called.b .nil pass0 (pa_cons (pv 1) (pa_cons (pe_ix ix_tup (pe_ix ix_list (pv 5) (pe_un un_neg pe_int) (fun _ _ => rfl)) pe_int (fun _ _ => rfl)) (pa_cons (pe_ix ix_list (pv 3) (pv 7) (fun _ _ => rfl)) pa_nil)))) (pg_tup rfl (pgs_cons (pg_name (i := 10) sc__law_gone.nd rfl (Or.inl rfl)) (pgs_cons (pg_name (i := 11) sc__law_gone.nd rfl (Or.inl rfl)) pgs_nil))))
        (pss_cons (ps_expr (pe_bm PySem.F.plainAttrs_list PySem.F.slot_list_append PySem.F.type_list_append mt_append (pv 5) (pa_cons (pe_tup (pa_cons (pv 8) (pa_cons (pv 10) pa_nil))) pa_nil)))
        (pss_one (ps_if (PW.pt (pw_or (pt_cmpR op_ne (pe_callB call_len_seq (by rfl) T.b_len PySem.boot_len (pa_cons (pv 9) pa_nil)) (pe_callB call_len_seq (by rfl) T.b_len PySem.boot_len (pa_cons (pv 11) pa_nil)) (nomark _)) (pw_or1 (PW.pt (pw_and (pt_cmpR (op_neE hr.units) (pv 9) (pv 11) (nomark _)) (pw_and1 (pt_not (pt_val (pv 4))))))))) (pss_one (ps_expr (pe_bm PySem.F.plainAttrs_list PySem.F.slot_list_append PySem.F.type_list_append mt_append (pv 6) (pa_cons (pv 7) pa_nil)))) pss_nil))))))
      (pss_one (ps_ret (pe_tup (pa_cons (pv 5) (pa_cons (pv 6) pa_nil))))))), ?_⟩
    refine ⟨_, rfl, (by show 1 ≤ sizeLine; decide), fun a1 ha1 => ⟨(by show 0 ≤ sizeLine; decide), fun a2 ha2 => ⟨_, _, rfl, ?_⟩⟩⟩
    have s1 := same_newK (same_newK (fun _ _ h => h : Same H H) (o := .lst [v]) ha1) (o := .lst []) ha2
    have n12 : a1 ≠ a2 := ne_of_none upd_same ha2
    have a10 : H a1 = none := ha1
    have a20 : H a2 = none := (same_newK (fun _ _ h => h : Same H H) (o := .lst [v]) ha1).free ha2
    refine ⟨_, rfl, ra, _, rfl, .inl (SqL.of (s1 _ _ S.1)), (l.length : Int), (by rw [List.length_map]), by omega, by omega, for_range (lo := 0) (n := (l.length : Int).toNat) (fun i σ H' => ∃ (ws : List V) (v7 v8 v9 v10 v11 : Option V), σ = [some (.ref p1), some (.ref p2), some v, some (.ref ra), some (.bl hd), some (.ref a1), some (.ref a2), v7, v8, v9, v10, v11] ∧ Same H H' ∧ H' a1 = some (.lst ws) ∧ TpA H' ws ((psN r1 r2 p (l.map (·.2)) (i + 1)).map dPr) ∧ H' a2 = some (.lst ((unN r1 r2 hd p (l.map (·.2)) i).map V.int))) ?_ ?_ ?_⟩
    · refine ⟨[v], none, none, none, none, none, rfl, s1, by rw [upd_ne n12]; exact upd_same, .cons (tv.mono (tx_same s1)) .nil, upd_same⟩
    · rintro i σ H' hi ⟨ws, v7, v8, v9, v10, v11, rfl, s2, g1, g2, g3⟩
      have hil : i < l.length := by simpa using hi
      have hq : l[i]? = some l[i] := List.getElem?_eq_getElem hil
      have hst : (l.map (·.2))[i]? = some l[i].2 := get_map (f := fun q : Addr × List Str => q.2) hq
      have hek : H l[i].1 = some (.lst (l[i].2.map V.str)) := S.2 _ (List.getElem_mem hil)
      rw [psN_succ] at g2
      obtain ⟨pv, hpv, tpv⟩ := tpa_last g2
      rw [psN_len] at hpv
      have lw : ws.length = i + 1 := by rw [g2.length, List.length_map, List.length_append, psN_len]; rfl
      obtain ⟨pa, w1, w2, rfl, ep, t1, t2⟩ := tp_pr tpv
      have okc := ok.cur R1 R2 ((l.map (·.2)).take i)
      generalize hcur : curP r1 r2 p ((l.map (·.2)).take i) = cp at t1 t2 okc g2 tpv
      have i0 : ((0 : Int) + (i : Int)) = ((i : Nat) : Int) := by omega
      refine ⟨_, rfl, _, rfl, 1, rfl, a1, _, _, _, rfl, rfl, SqL.of g1, atI_neg1 lw hpv, pa, _, 0, w1, rfl, rfl, SqT.of ep, rfl, _, rfl, _, rfl, ra, _, _, .ref l[i].1, rfl, rfl, SqL.of (s2 _ _ S.1), ?_, ?_⟩
      · rw [i0]; exact atI_nat (get_map (f := fun q : Addr × List Str => V.ref q.1) hq)
      refine ⟨p1, l[i].1, w1, r1, cp.1, l[i].2, nm, rfl, s2 _ _ e1, t1, s2 _ _ hek, okc.a, asc, Nat.le_trans R1.len R1.few, R1.len, fun H1 ta ua x1 s3 et1 tx1 eu1 => ⟨ta, _, rfl, SqT.of et1, rfl, _, _, rfl, _, _, rfl, rfl, ?_⟩⟩
      refine ⟨_, rfl, _, rfl, 1, rfl, a1, _, _, _, rfl, rfl, SqL.of (s3 _ _ g1), atI_neg1 lw hpv, pa, _, 1, w2, rfl, rfl, SqT.of (s3 _ _ ep), rfl, _, rfl, _, rfl, ra, _, _, .ref l[i].1, rfl, rfl, SqL.of (s3 _ _ (s2 _ _ S.1)), ?_, ?_⟩
      · rw [i0]; exact atI_nat (get_map (f := fun q : Addr × List Str => V.ref q.1) hq)
      refine ⟨p2, l[i].1, w2, r2, cp.2, l[i].2, nm, rfl, s3 _ _ (s2 _ _ e2), t2.mono (tx_same s3), s3 _ _ (s2 _ _ hek), okc.b, asc, Nat.le_trans R2.len R2.few, R2.len, fun H2 tb ub x2 s4 et2 tx2 eu2 => ⟨tb, _, rfl, SqT.of et2, rfl, _, _, rfl, _, _, rfl, rfl, ?_⟩⟩
      have s34 := s3.trans s4
      have s24 := s2.trans s34
      have g1' := s34 _ _ g1
      refine ⟨_, rfl, .inl ⟨rfl, _, SqL.of g1'⟩, _, rfl, _, rfl, (by show 2 ≤ sizeLine; decide), fun t ht => ?_⟩
      have n1t := ne_of_none g1' ht
      have g3' := s34 _ _ g3
      have n2t := ne_of_none g3' ht
      have g1t : (upd H2 t (.tup [x1, x2])) a1 = some (.lst ws) := by rw [upd_ne n1t]; exact g1'
      refine ⟨a1, _, _, rfl, rfl, g1t, small1000 (by omega), ?_⟩
      have hu1 := s4 _ _ eu1
      have nu1t := ne_of_none hu1 ht
      have nu2t := ne_of_none eu2 ht
      -- the heap behind the append
      have sF : Same H (upd (upd H2 t (.tup [x1, x2])) a1 (.lst (ws ++ [.ref t]))) := same_upd (same_newK s24 ht) a10
      have txF : TX H2 (upd (upd H2 t (.tup [x1, x2])) a1 (.lst (ws ++ [.ref t]))) := (tx_new ht).trans (tx_updL g1t)
      have hcs := curP_succ (r1 := r1) (r2 := r2) (p := p) hst
      rw [hcur] at hcs
      have gA : TpA (upd (upd H2 t (.tup [x1, x2])) a1 (.lst (ws ++ [.ref t]))) (ws ++ [.ref t]) ((psN r1 r2 p (l.map (·.2)) (i + 1 + 1)).map dPr) := by
        rw [psN_succ (n := i + 1), psN_succ, hcur, hcs, List.map_append]
        refine TpA.snoc ((g2.mono (tx_same s34)).mono txF) (tp_pr_of (p := stpP r1 r2 l[i].2 cp) (v1 := x1) (v2 := x2) ?_ ((tx1.mono (tx_same s4)).mono txF) (tx2.mono txF))
        show (upd _ a1 _) t = _
        rw [upd_ne n1t.symm]; exact upd_same
      have gU : (upd (upd H2 t (.tup [x1, x2])) a1 (.lst (ws ++ [.ref t]))) a2 = some (.lst ((unN r1 r2 hd p (l.map (·.2)) i).map V.int)) := by
        rw [upd_ne n12.symm, upd_ne n2t]; exact g3'
      have huA : (upd (upd H2 t (.tup [x1, x2])) a1 (.lst (ws ++ [.ref t]))) ua = some (.lst ((upS l[i].2 cp.1).map V.str)) := by
        have q : (upd H2 t (.tup [x1, x2])) ua = some (.lst ((upS l[i].2 cp.1).map V.str)) := by rw [upd_ne nu1t]; exact hu1
        rw [upd_ne (fun z => strs_noref (by rw [z, g1'] at hu1; exact Option.some.inj hu1) hpv)]; exact q
      have huB : (upd (upd H2 t (.tup [x1, x2])) a1 (.lst (ws ++ [.ref t]))) ub = some (.lst ((upS l[i].2 cp.2).map V.str)) := by
        have q : (upd H2 t (.tup [x1, x2])) ub = some (.lst ((upS l[i].2 cp.2).map V.str)) := by rw [upd_ne nu2t]; exact eu2
        rw [upd_ne (fun z => strs_noref (by rw [z, g1'] at eu2; exact Option.some.inj eu2) hpv)]; exact q
      generalize hHF : upd (upd H2 t (.tup [x1, x2])) a1 (.lst (ws ++ [.ref t])) = HF at sF gA gU huA huB ⊢
      have gL : HF a1 = some (.lst (ws ++ [.ref t])) := by rw [← hHF]; exact upd_same
      have hun := unN_succ (r1 := r1) (r2 := r2) (hd := hd) (p := p) (row := l.map (·.2)) (n := i)
      rw [List.getD_eq_getElem?_getD, hst, hcur] at hun
      have hun : unN r1 r2 hd p (l.map (·.2)) (i + 1) = unN r1 r2 hd p (l.map (·.2)) i ++ (if tellD hd l[i].2 cp = true then [(i : Int)] else []) := hun
      have lun := unN_len (r1 := r1) (r2 := r2) (hd := hd) (p := p) (row := l.map (·.2)) (n := i)
      have Y : tellD hd l[i].2 cp = true → Same H (upd HF a2 (.lst ((unN r1 r2 hd p (l.map (·.2)) i).map V.int ++ [.int (0 + (i : Int))]))) ∧ (upd HF a2 (.lst ((unN r1 r2 hd p (l.map (·.2)) i).map V.int ++ [.int (0 + (i : Int))]))) a1 = some (.lst (ws ++ [.ref t])) ∧
          TpA (upd HF a2 (.lst ((unN r1 r2 hd p (l.map (·.2)) i).map V.int ++ [.int (0 + (i : Int))]))) (ws ++ [.ref t]) ((psN r1 r2 p (l.map (·.2)) (i + 1 + 1)).map dPr) ∧ (upd HF a2 (.lst ((unN r1 r2 hd p (l.map (·.2)) i).map V.int ++ [.int (0 + (i : Int))]))) a2 = some (.lst ((unN r1 r2 hd p (l.map (·.2)) (i + 1)).map V.int)) := fun ht => by
        refine ⟨same_upd sF a20, by rw [upd_ne n12]; exact gL, gA.mono (tx_updL gU), ?_⟩
        rw [upd_same, hun, if_pos ht, List.map_append, i0]; rfl
      have N : tellD hd l[i].2 cp = false → HF a2 = some (.lst ((unN r1 r2 hd p (l.map (·.2)) (i + 1)).map V.int)) := fun ht => by
        rw [hun, if_neg (by rw [ht]; decide), List.append_nil]; exact gU
      have lz : ((unN r1 r2 hd p (l.map (·.2)) i).map V.int).length < sizeLine := by rw [List.length_map]; exact small1000 (by omega)
      refine ⟨_, rfl, ua, _, rfl, .inl (SqL.of huA), _, rfl, ub, _, rfl, .inl (SqL.of huB), rfl, _, rfl, iteDN (fun hne => ?_) (fun heq => ?_)⟩
      · have ht : tellD hd l[i].2 cp = true := by
          have hne' : ¬ (upS l[i].2 cp.1).length = (upS l[i].2 cp.2).length := fun z => hne (by rw [List.length_map, List.length_map, z])
          unfold tellD
          cases hd with
          | true => rw [if_pos rfl, decide_eq_false hne']; rfl
          | false => rw [if_neg (by decide), decide_eq_false (fun z => hne' (by rw [z]))]; rfl
        obtain ⟨y1, y2, y3, y4⟩ := Y ht
        exact ⟨_, rfl, .inl ⟨rfl, _, SqL.of gU⟩, _, rfl, a2, _, _, rfl, rfl, gU, lz, ws ++ [.ref t], _, _, _, _, _, rfl, y1, y2, y3, y4⟩
      · have heq' : (upS l[i].2 cp.1).length = (upS l[i].2 cp.2).length := by
          have := V.int.inj heq
          rw [List.length_map, List.length_map] at this
          omega
        refine ⟨_, rfl, _, rfl, List Str, inferInstance, dStrs, upS l[i].2 cp.1, upS l[i].2 cp.2, encS, dp_strs huA, dp_strs huB, _, rfl, iteDN (fun hne => ?_) (fun heq2 => ?_)⟩
        · refine ⟨_, rfl, hd, rfl, ?_⟩
          cases hd with
          | true => exact ⟨ws ++ [.ref t], _, _, _, _, _, rfl, sF, gL, gA, N (by unfold tellD; rw [if_pos rfl, decide_eq_true heq']; rfl)⟩
          | false =>
            obtain ⟨y1, y2, y3, y4⟩ := Y (by unfold tellD; rw [if_neg (by decide), decide_eq_false hne]; rfl)
            exact ⟨_, rfl, .inl ⟨rfl, _, SqL.of gU⟩, _, rfl, a2, _, _, rfl, rfl, gU, lz, ws ++ [.ref t], _, _, _, _, _, rfl, y1, y2, y3, y4⟩
        · refine ⟨ws ++ [.ref t], _, _, _, _, _, rfl, sF, gL, gA, N ?_⟩
          unfold tellD
          cases hd with
          | true => rw [if_pos rfl, decide_eq_true heq']; rfl
          | false => rw [if_neg (by decide), decide_eq_true heq2]; rfl
    · rintro σ H' ⟨ws, v7, v8, v9, v10, v11, rfl, s2, g1, g2, g3⟩
      rw [Int.toNat_natCast] at g2 g3
      refine ⟨_, rfl, _, rfl, (by show 2 ≤ sizeLine; decide), fun t ht => k _ t a1 a2 ws (same_newK s2 ht) upd_same ?_ ?_ ?_⟩
      · rw [upd_ne (ne_of_none g1 ht)]; exact g1
      · unfold gonePs; rw [List.length_map]; exact g2.mono (tx_new ht)
      · unfold goneUn; rw [upd_ne (ne_of_none g3 ht), List.length_map]; exact g3
end
end L2.K83

set_option Elab.async false
set_option linter.all false
set_option maxRecDepth 100000
set_option maxHeartbeats 4000000
/-! All shorter rows. -/
namespace L2.K83
open PySem PySem.Spec PyProof.Rows L2.KB
section
variable {P : Program} {w : World} {K : PySem.W.Frag} {mg : Str → Option Value} {base : Heap} {C : Addr} {f1 f2 f3 f4 : Addr} {fd1 fd2 fd3 fd4 : FuncData}
/-- rows of n strokes of l, each at its place -/
def RWs (H : Hp) (l : List (Addr × List Str)) (n : Nat) (rs : List (Addr × List (Addr × List Str))) : Prop := ∀ x ∈ rs, H x.1 = some (.lst (x.2.map fun q => V.ref q.1)) ∧ (∀ q ∈ x.2, q ∈ l) ∧ x.2.length = n
theorem RWs.same {H H' : Hp} {l : List (Addr × List Str)} {n : Nat} {rs : List (Addr × List (Addr × List Str))} (h : RWs H l n rs) (s : Same H H') : RWs H' l n rs := fun x hx => ⟨s _ _ (h x hx).1, (h x hx).2⟩
theorem RWs.upd {H : Hp} {D : Addr} {o : HO} {l : List (Addr × List Str)} {n : Nat} {rs : List (Addr × List (Addr × List Str))} (h : RWs H l n rs) (ne : ∀ x ∈ rs, x.1 ≠ D) : RWs (upd H D o) l n rs := fun x hx => ⟨by rw [upd_ne (ne x hx)]; exact (h x hx).1, (h x hx).2⟩
theorem RWs.app {H : Hp} {l : List (Addr × List Str)} {n : Nat} {rs ts : List (Addr × List (Addr × List Str))} (h : RWs H l n rs) (k : RWs H l n ts) : RWs H l n (rs ++ ts) := fun x hx => by
  rcases List.mem_append.mp hx with z | z
  · exact h x z
  · exact k x z
-- _law_shorter: slots 0 _law_strokes_here, 1 _law_size, 2 _law_rows, 3 _law_turn, 4 _law_longer, 5 _law_row*, 6 _law_stroke
abbrev S__law_shorter : Stmt := (topS 46)
abbrev N__law_shorter : List Str := ["_law_strokes_here", "_law_size", "_law_rows", "_law_turn", "_law_longer", "_law_row", "_law_stroke"]
theorem sc__law_shorter : FnScope N__law_shorter ["_law_strokes_here", "_law_size"] (defScope S__law_shorter) := ⟨rfl, rfl, rfl, by decide +kernel, rfl, by decide +kernel, by decide +kernel⟩
def sp_shorter : Sp := fun vs H Q _ => ∃ (sa : Addr) (l : List (Addr × List Str)) (m : Int), vs = [.ref sa, .int m] ∧ SS H sa l ∧ l.length ≤ 8 ∧ 0 ≤ m ∧ m ≤ 400 ∧
  (∀ H', Same H H' → Q .non H') ∧ ∀ (H' : Hp) (R : Addr) (rs : List (Addr × List (Addr × List Str))), Same H H' → H' R = some (.lst (rs.map fun x => V.ref x.1)) → RWs H' l m.toNat rs → rs.length ≤ 300 → Q (.ref R) H'
theorem ok_shorter {f : Addr} {fd : FuncData} (F : Fun K "_law_shorter" "_law_shorter" S__law_shorter f fd) (T : Txt K mg C) : FnOk P w K mg base CX0 1 f fd ["_law_strokes_here", "_law_size"] sp_shorter := by
  refine F.ok sc__law_shorter (fun vs H Q E h => ?_) (fun cdv A outer s H vs Q E hr h => ?_)
  · obtain ⟨sa, l, m, rfl, _⟩ := h
    rfl
  · obtain ⟨sa, l, m, rfl, S, hl, h1, h2, kN, kR⟩ := h
    refine ⟨_, (pss_cons (ps_set (i := 2) sc__law_shorter.nd rfl (Or.inl rfl) (pe_lst (pa_cons (pe_lst pa_nil) pa_nil)))
      (pss_cons (ps_for PassesOwn.never rfl (pi_range1 rfl T.b_range (pa_cons (pv 1) pa_nil)) (pg_name (i := 3) sc__law_shorter.nd rfl (Or.inl rfl))
        (pss_cons (ps_set (i := 4) sc__law_shorter.nd rfl (Or.inl rfl) (pe_lst pa_nil))
        (pss_cons (ps_for PassesOwn.never rfl (pi_list (pv 2)) (pg_name (i := 5) sc__law_shorter.nd rfl (Or.inr rfl))
          (pss_one (ps_expr (pe_bm PySem.F.plainAttrs_list PySem.F.slot_list_extend PySem.F.type_list_extend mt_extend (pv 4) (pa_cons (pe_lc (own := [("_law_stroke", 6)]) (g := (gName 6)) (tt := tYes) rfl sc__law_shorter.nd (pi_list (pv 0)) (blkOk_by (own := [("_law_stroke", 6)]) (N := N__law_shorter) (sc := defScope S__law_shorter) (by decide +kernel)) (fun _ _ _ _ _ => (pg_name (i := 6) sc__law_shorter.nd rfl (Or.inl rfl))) (fun _ _ _ _ _ => pts_nil) (fun _ _ _ _ _ => (pe_op op_cat (pv 5) (pe_lst (pa_cons (pv 6) pa_nil))))) pa_nil)))))
        (pss_cons (ps_set (i := 2) sc__law_shorter.nd rfl (Or.inl rfl) (pv 4))
        (pss_one (ps_if (pt_cmpR op_gt (pe_callB call_len_seq (by rfl) T.b_len PySem.boot_len (pa_cons (pv 2) pa_nil)) pe_int (nomark _)) (pss_one (ps_ret pe_non)) pss_nil))))))
      (pss_one (ps_ret (pv 2))))), ?_⟩
    refine ⟨(by show 0 ≤ sizeLine; decide), fun e he => ⟨(by show 1 ≤ sizeLine; decide), fun r hr0 => ?_⟩⟩
    have s1 := same_newK (same_newK (fun _ _ h => h : Same H H) (o := .lst []) he) (o := .lst [.ref e]) hr0
    have nre : e ≠ r := ne_of_none upd_same hr0
    refine ⟨_, rfl, m, rfl, by omega, by omega, for_range (lo := 0) (n := m.toNat) (fun i σ H' => ∃ (R : Addr) (rs : List (Addr × List (Addr × List Str))) (v3 v4 v5 : Option V), σ = [some (.ref sa), some (.int m), some (.ref R), v3, v4, v5, none] ∧ Same H H' ∧ H' R = some (.lst (rs.map fun x => V.ref x.1)) ∧ RWs H' l i rs ∧ rs.length ≤ 300) ?_ ?_ ?_⟩
    · refine ⟨r, [(e, [])], none, none, none, rfl, s1, upd_same, fun x hx => ?_, (by show 1 ≤ 300; decide)⟩
      have : x = (e, []) := List.mem_singleton.mp hx
      subst this
      refine ⟨by rw [upd_ne nre]; exact upd_same, ?_, rfl⟩
      intro q hq; cases hq
    · rintro i σ Hx hi ⟨R, rs, v3, v4, v5, rfl, s2, eR, rw1, lr⟩
      refine ⟨(by show 0 ≤ sizeLine; decide), fun G hG => ?_⟩
      have G0 := s2.free hG
      have sG := same_newK (fun _ _ h => h : Same Hx Hx) (o := .lst []) hG
      refine ⟨_, rfl, R, rfl, ⟨_, SqL.of (sG _ _ eR)⟩, for_list (K := K) (a := R) (xs := rs.map fun x => V.ref x.1) (fun j σ H' => ∃ (ts : List (Addr × List (Addr × List Str))) (v3 v5 : Option V), σ = [some (.ref sa), some (.int m), some (.ref R), v3, some (.ref G), v5, none] ∧ Same Hx H' ∧ H' G = some (.lst (ts.map fun x => V.ref x.1)) ∧ RWs H' l (i + 1) ts ∧ (∀ x ∈ ts, x.1 ≠ G) ∧ ts.length ≤ 8 * j) ?_ ?_ ?_ ?_⟩
      · exact ⟨[], _, _, rfl, sG, upd_same, (by intro x hx; cases hx), (by intro x hx; cases hx), Nat.le_refl _⟩
      · rintro j σ H' _ ⟨ts, v3, v5, rfl, s3, _⟩
        exact SqL.of (s3 _ _ eR)
      · rintro j x σ Hy hj ⟨ts, v3, v5, rfl, s3, eG, rw2, ng, lt⟩
        obtain ⟨y, hy, rfl⟩ := map_get hj
        have hym := List.mem_of_getElem? hy
        have hjl : j < rs.length := (List.getElem?_eq_some_iff.mp hy).1
        obtain ⟨q1, q2, q3⟩ := rw1 y hym
        have S3 : SS Hy sa l := S.same (s2.trans s3)
        refine ⟨_, rfl, .inl ⟨rfl, _, SqL.of eG⟩, _, rfl, sa, rfl, ⟨_, SqL.of S3.1⟩, fun D hD => lc_list (K := K) (a := sa) (xs := l.map fun q => V.ref q.1) (fun n H' => ∃ cs : List (Addr × List (Addr × List Str)), Same Hy H' ∧ H' D = some (.lst (cs.map fun x => V.ref x.1)) ∧ RWs H' l (i + 1) cs ∧ (∀ x ∈ cs, x.1 ≠ D ∧ x.1 ≠ G) ∧ cs.length = n) ?_ ?_ ?_ ?_⟩
        · exact ⟨[], same_newK (fun _ _ h => h : Same Hy Hy) hD, upd_same, (by intro x hx; cases hx), (by intro x hx; cases hx), rfl⟩
        · rintro n H' _ ⟨cs, s4, _⟩
          exact SqL.of (s4 _ _ S3.1)
        · rintro n x H' hn ⟨cs, s4, eD, rw3, ne, ln⟩
          obtain ⟨q, hq, rfl⟩ := map_get hn
          have hnl : n < l.length := (List.getElem?_eq_some_iff.mp hq).1
          refine ⟨rfl, _, rfl, _, rfl, (by show 1 ≤ sizeLine; decide), fun e1 he1 => ?_⟩
          have nD1 := ne_of_none eD he1
          have ey : (upd H' e1 (.lst [.ref q.1])) y.1 = some (.lst (y.2.map fun q => V.ref q.1)) := by
            have z := s4 _ _ (s3 _ _ q1)
            rw [upd_ne (ne_of_none z he1)]; exact z
          have sz : i < 400 := by omega
          refine ⟨y.1, e1, _, _, rfl, rfl, ey, upd_same, ?_, fun c hc => ?_⟩
          · rw [List.length_map, q3]; exact Nat.le_of_lt (small1000 (by show i + 1 ≤ 1000; omega))
          have eD1 : (upd H' e1 (.lst [.ref q.1])) D = some (.lst (cs.map fun x => V.ref x.1)) := by rw [upd_ne nD1]; exact eD
          have nDc := ne_of_none eD1 hc
          have s5 : Same Hy (upd (upd H' e1 (.lst [.ref q.1])) c (.lst ((y.2.map fun q => V.ref q.1) ++ [.ref q.1]))) := same_newK (same_newK s4 he1) hc
          have nGc : c ≠ G := fun z => by
            have z1 := same_newK s4 (o := .lst [.ref q.1]) he1 _ _ eG
            exact ne_of_none z1 hc z.symm
          refine ⟨_, by rw [upd_ne nDc]; exact eD1, ?_, cs ++ [(c, y.2 ++ [q])], same_upd s5 hD, ?_, ?_, ?_, ?_⟩
          · rw [List.length_map]; exact small1000 (by omega)
          · rw [upd_same, List.map_append]; rfl
          · refine RWs.app ?_ ?_
            · refine RWs.upd ?_ (fun x hx => (ne x hx).1)
              refine RWs.same rw3 (same_newK (same_newK (fun _ _ h => h : Same H' H') he1) hc)
            · intro x hx
              have : x = (c, y.2 ++ [q]) := List.mem_singleton.mp hx
              subst this
              refine ⟨?_, ?_, by rw [List.length_append, q3]; rfl⟩
              · rw [upd_ne nDc.symm, upd_same, List.map_append]; rfl
              · intro z hz
                rcases List.mem_append.mp hz with zz | zz
                · exact q2 z zz
                · have : z = q := List.mem_singleton.mp zz
                  subst this; exact List.mem_of_getElem? hq
          · intro x hx
            rcases List.mem_append.mp hx with z | z
            · exact ne x z
            · have : x = (c, y.2 ++ [q]) := List.mem_singleton.mp z
              subst this
              exact ⟨nDc.symm, nGc⟩
          · rw [List.length_append, ln]; rfl
        · rintro H' ⟨cs, s4, eD, rw3, ne, ln⟩
          rw [List.length_map] at ln
          have eG4 := s4 _ _ eG
          refine ⟨G, D, _, _, rfl, rfl, eG4, eD, ?_, ?_⟩
          · rw [List.length_map, List.length_map]
            rw [sizeLine_eq]; omega
          · have hGx : Hx G = none := hG
            refine ⟨ts ++ cs, _, _, rfl, same_upd (s3.trans s4) hGx, by rw [upd_same, List.map_append], ?_, ?_, by rw [List.length_append]; omega⟩
            · exact RWs.app ((rw2.same s4).upd ng) (rw3.upd fun x hx => (ne x hx).2)
            · intro x hx
              rcases List.mem_append.mp hx with z | z
              · exact ng x z
              · exact (ne x z).2
      · rintro σ H' ⟨ts, v3, v5, rfl, s3, eG, rw2, ng, lt⟩
        refine ⟨_, rfl, _, rfl, G, _, rfl, .inl (SqL.of eG), _, _, rfl, rfl, _, rfl, iteD (fun c => ?_) (fun c => ?_)⟩
        · exact kN _ (s2.trans s3)
        · rw [List.length_map] at c
          exact ⟨G, ts, _, _, _, rfl, s2.trans s3, eG, rw2, by omega⟩
    · rintro σ H' ⟨R, rs, v3, v4, v5, rfl, s2, eR, rw1, lr⟩
      exact ⟨_, rfl, kR _ R rs s2 eR rw1 lr⟩
end
end L2.K83

set_option Elab.async false
set_option linter.all false
set_option maxRecDepth 100000
set_option maxHeartbeats 4000000
/-! What is asked of a row that parts. -/
namespace L2.K83
open PySem PySem.Spec PyProof.Rows L2.KB
section
variable {P : Program} {w : World} {K : PySem.W.Frag} {mg : Str → Option Value} {base : Heap} {C : Addr} {f1 f2 f3 f4 : Addr} {fd1 fd2 fd3 fd4 : FuncData}
theorem dtrue {c : Prop} {inst : Decidable c} (h : c) : decide c = true := decide_eq_true h
-- _law_parted_right: slots 0 _law_spans_here, 1 _law_others, 2 _law_stands, 3 _law_strokes_here*, 4 _law_counted, 5 _law_row, 6 _law_size, 7 _law_other, 8 _law_stroke
abbrev S__law_parted_right : Stmt := (topS 47)
abbrev N__law_parted_right : List Str := ["_law_spans_here", "_law_others", "_law_stands", "_law_strokes_here", "_law_counted", "_law_row", "_law_size", "_law_other", "_law_stroke"]
theorem sc__law_parted_right : FnScope N__law_parted_right ["_law_spans_here", "_law_others", "_law_stands", "_law_strokes_here", "_law_counted", "_law_row"] (defScope S__law_parted_right) := ⟨rfl, rfl, rfl, by decide +kernel, rfl, by decide +kernel, by decide +kernel⟩
def sp_parted : Sp := fun vs H Q _ => ∃ (p1 p2 sa ra : Addr) (v : V) (r1 r2 : List Int) (p : St0 × St0) (l lr : List (Addr × List Str)) (nm : List Str) (hd : Bool), vs = [.ref p1, .ref p2, v, .ref sa, .bl hd, .ref ra] ∧ H p1 = some (.lst (r1.map V.int)) ∧ H p2 = some (.lst (r2.map V.int)) ∧ Tp H v (dPr p) ∧ SS H sa l ∧ SS H ra lr ∧ OkR nm r1 ∧ OkR nm r2 ∧ OkP nm p ∧ Asc nm ∧ l.length ≤ 8 ∧ lr.length ≤ 400 ∧
  (∀ q ∈ lr, q.2 ∈ l.map (·.2)) ∧ goneUn r1 r2 hd p (lr.map (·.2)) = [(lr.length : Int) - 1] ∧ (∀ row : List (List Str), row.length < lr.length → (∀ st ∈ row, st ∈ l.map (·.2)) → goneUn r1 r2 hd p row = []) ∧
  ∀ H', Same H H' → Q (.bl true) H'
theorem ok_parted {f : Addr} {fd : FuncData} (F : Fun K "_law_parted_right" "_law_parted_right" S__law_parted_right f fd) (T : Txt K mg C) (D_law_gone : Fd P w K mg base CX0 3 "_law_gone" f1 fd1 ["_law_spans_here", "_law_others", "_law_stands", "_law_row", "_law_counted"] sp_gone)
    (D_law_shorter : Fd P w K mg base CX0 1 "_law_shorter" f2 fd2 ["_law_strokes_here", "_law_size"] sp_shorter) :
    FnOk P w K mg base CX0 4 f fd ["_law_spans_here", "_law_others", "_law_stands", "_law_strokes_here", "_law_counted", "_law_row"] sp_parted := by
  refine F.ok sc__law_parted_right (fun vs H Q E h => ?_) (fun cdv A outer s H vs Q E hr h => ?_)
  · obtain ⟨p1, p2, sa, ra, v, r1, r2, p, l, lr, nm, hd, rfl, _⟩ := h
    rfl
  · obtain ⟨p1, p2, sa, ra, v, r1, r2, p, l, lr, nm, hd, rfl, e1, e2, tv, S, Sr, R1, R2, ok, asc, hl, hlr, hmem, hgone, hshort, k⟩ := h
    refine ⟨_, (pss_cons (ps_if (pt_not (pt_val (pe_callB (cr_all rfl) (by rfl) T.b_all (by decide +kernel) (pa_cons (pe_lc (own := [("_law_stroke", 8)]) (g := (gName 8)) (tt := tYes) rfl sc__law_parted_right.nd (pi_list (pv 5)) (blkOk_by (own := [("_law_stroke", 8)]) (N := N__law_parted_right) (sc := defScope S__law_parted_right) (by decide +kernel)) (fun _ _ _ _ _ => (pg_name (i := 8) sc__law_parted_right.nd rfl (Or.inl rfl))) (fun _ _ _ _ _ => pts_nil) (fun _ _ _ _ _ => (pe_cmpR (op_inEK (K := K) rfl hr.units) (pv 8) (pv 3) (by rfl)))) pa_nil)))) (pss_one (ps_ret pe_bl)) pss_nil)
      (pss_cons (ps_if (pt_cmpR (op_neE hr.units) (pe_ix ix_tup (pe_call D_law_gone.ok (hr.mono (by decide)) rfl D_law_gone.m D_law_gone.kp D_law_gone.b .nil pass0 (pa_cons (pv 0) (pa_cons (pv 1) (pa_cons (pv 2) (pa_cons (pv 5) (pa_cons (pv 4) pa_nil)))))) pe_int (fun _ _ => rfl)) (pe_lst (pa_cons (pe_op op_sub (pe_callB call_len_seq (by rfl) T.b_len PySem.boot_len (pa_cons (pv 5) pa_nil)) pe_int) pa_nil)) (nomark _)) (pss_one (ps_ret pe_bl)) pss_nil)
      (pss_cons (ps_for PassesOwn.never rfl (pi_range2 rfl T.b_range (pa_cons pe_int (pa_cons (pe_callB call_len_seq (by rfl) T.b_len PySem.boot_len (pa_cons (pv 5) pa_nil)) pa_nil))) (pg_name (i := 6) sc__law_parted_right.nd rfl (Or.inl rfl))
        (pss_one (ps_for PassesOwn.never rfl (pi_list (pe_orT (pe_call D_law_shorter.ok (hr.mono (by decide)) rfl D_law_shorter.m D_law_shorter.kp D_law_shorter.b .nil pass0 (pa_cons (pv 3) (pa_cons (pv 6) pa_nil))) (pe_one (pe_lst pa_nil)))) (pg_name (i := 7) sc__law_parted_right.nd rfl (Or.inl rfl))
          (pss_one (ps_if (pt_cmpR (op_neE hr.units) (pe_ix ix_tup (pe_call D_law_gone.ok (hr.mono (by decide)) rfl D_law_gone.m D_law_gone.kp D_law_gone.b .nil pass0 (pa_cons (pv 0) (pa_cons (pv 1) (pa_cons (pv 2) (pa_cons (pv 7) (pa_cons (pv 4) pa_nil)))))) pe_int (fun _ _ => rfl)) (pe_lst pa_nil) (nomark _)) (pss_one (ps_ret pe_bl)) pss_nil)))))
      (pss_one (ps_ret pe_bl))))), ?_⟩
    refine ⟨_, rfl, ra, rfl, ⟨_, SqL.of Sr.1⟩, fun D hD => lc_list (K := K) (a := ra) (xs := lr.map fun q => V.ref q.1) (fun i H' => H' D = some (.lst ((List.replicate i true).map V.bl)) ∧ Same H H') ?_ ?_ ?_ ?_⟩
    · exact ⟨upd_same, same_newK (fun _ _ h => h) hD⟩
    · rintro i H' _ ⟨g1, g2⟩
      exact SqL.of (g2 _ _ Sr.1)
    · rintro i y H' hi ⟨g1, g2⟩
      obtain ⟨q, hq, rfl⟩ := map_get hi
      have hil : i < lr.length := (List.getElem?_eq_some_iff.mp hq).1
      have hqm := List.mem_of_getElem? hq
      refine ⟨rfl, _, rfl, _, rfl, List Str, inferInstance, dStrs, q.2, l.map (·.2), encS, dp_strs (g2 _ _ (Sr.2 q hqm)), dp_SS (S.same g2), _, g1, ?_, ?_, same_upd g2 hD⟩
      · rw [List.length_map, List.length_replicate]; exact small1000 (by omega)
      · rw [upd_same, List.replicate_succ', List.map_append]
        exact congrArg (fun z => some (HO.lst ((List.replicate i true).map V.bl ++ [V.bl z]))) (dtrue (hmem q hqm))
    · rintro H1 ⟨g1, s1⟩
      refine ⟨D, _, rfl, SqL.of g1, true, congrArg V.bl (by simp), iteF ?_⟩
      -- the row parts at its last place
      refine ⟨_, rfl, _, rfl, _, rfl, _, rfl, _, rfl, p1, p2, ra, v, r1, r2, p, lr, nm, hd, rfl, s1 _ _ e1, s1 _ _ e2, tv.mono (tx_same s1), Sr.same s1, R1, R2, ok, asc, by omega, fun H2 t L1 L2 ws s2 et eL1 tws eL2 => ⟨t, _, 1, _, rfl, rfl, SqT.of et, rfl, ?_⟩⟩
      have s12 := s1.trans s2
      refine ⟨_, rfl, ra, _, rfl, .inl (SqL.of (s12 _ _ Sr.1)), _, _, rfl, rfl, (by show 1 ≤ sizeLine; decide), fun e he => ?_⟩
      refine ⟨List Int, inferInstance, dInts, goneUn r1 r2 hd p (lr.map (·.2)), [(lr.length : Int) - 1], encIs, dp_ints (by rw [upd_ne (ne_of_none eL2 he)]; exact eL2), dp_ints (by rw [upd_same, List.length_map]; rfl), _, rfl, iteDN (fun c => absurd hgone c) (fun _ => ?_)⟩
      have s3 := same_newK s12 (o := .lst [.int (((lr.map fun q => V.ref q.1).length : Int) - 1)]) he
      -- no shorter row does
      refine ⟨_, rfl, ra, _, rfl, .inl (SqL.of (s3 _ _ Sr.1)), 1, (lr.length : Int), (by rw [List.length_map]), ⟨by omega, by omega, by omega, by omega⟩, for_range (lo := 1) (n := ((lr.length : Int) - 1).toNat) (fun i σ H' => ∃ v6 v7 : Option V, σ = [some (.ref p1), some (.ref p2), some v, some (.ref sa), some (.bl hd), some (.ref ra), v6, v7, none] ∧ Same H H') ?_ ?_ ?_⟩
      · exact ⟨none, none, rfl, s3⟩
      · rintro i σ H3 hi ⟨v6, v7, rfl, s4⟩
        have hi' : i < lr.length - 1 := by omega
        refine ⟨_, rfl, _, rfl, sa, l, 1 + (i : Int), rfl, S.same s4, hl, by omega, by omega, fun H4 s5 => ?_, fun H4 R rs s5 eR rw1 lrs => ?_⟩
        · refine ⟨false, rfl, iteF ⟨(by show 0 ≤ sizeLine; decide), fun z hz => ⟨z, rfl, ⟨[], SqL.of upd_same⟩, for_list (K := K) (a := z) (xs := []) (fun j σ H' => σ = [some (.ref p1), some (.ref p2), some v, some (.ref sa), some (.bl hd), some (.ref ra), some (.int (1 + (i : Int))), v7, none] ∧ Same H H' ∧ H' z = some (.lst [])) ⟨rfl, same_newK (s4.trans s5) hz, upd_same⟩ ?_ ?_ ?_⟩⟩⟩
          · rintro j σ H' _ ⟨rfl, _, q⟩
            exact SqL.of q
          · rintro j x σ H' hj
            cases hj
          · rintro σ H' ⟨rfl, q, _⟩
            exact ⟨_, _, rfl, q⟩
        · have sx : SS H4 sa l := (S.same s4).same s5
          cases rs with
          | nil =>
            refine ⟨false, .inl ⟨_, SqL.of eR, rfl⟩, iteF ⟨(by show 0 ≤ sizeLine; decide), fun z hz => ⟨z, rfl, ⟨[], SqL.of upd_same⟩, for_list (K := K) (a := z) (xs := []) (fun j σ H' => σ = [some (.ref p1), some (.ref p2), some v, some (.ref sa), some (.bl hd), some (.ref ra), some (.int (1 + (i : Int))), v7, none] ∧ Same H H' ∧ H' z = some (.lst [])) ⟨rfl, same_newK (s4.trans s5) hz, upd_same⟩ ?_ ?_ ?_⟩⟩⟩
            · rintro j σ H' _ ⟨rfl, _, q⟩
              exact SqL.of q
            · rintro j x σ H' hj
              cases hj
            · rintro σ H' ⟨rfl, q, _⟩
              exact ⟨_, _, rfl, q⟩
          | cons r0 rs =>
            refine ⟨true, .inl ⟨_, SqL.of eR, rfl⟩, iteT ⟨R, rfl, ⟨_, SqL.of eR⟩, for_list (K := K) (a := R) (xs := (r0 :: rs).map fun x => V.ref x.1) (fun j σ H' => ∃ v7 : Option V, σ = [some (.ref p1), some (.ref p2), some v, some (.ref sa), some (.bl hd), some (.ref ra), some (.int (1 + (i : Int))), v7, none] ∧ Same H4 H') ⟨_, rfl, fun _ _ h => h⟩ ?_ ?_ ?_⟩⟩
            · rintro j σ H' _ ⟨_, rfl, q⟩
              exact SqL.of (q _ _ eR)
            · rintro j x σ H5 hj ⟨_, rfl, s6⟩
              obtain ⟨y, hy, rfl⟩ := map_get hj
              obtain ⟨q1, q2, q3⟩ := rw1 y (List.mem_of_getElem? hy)
              have q3 : y.2.length = i + 1 := by rw [q3]; omega
              have s456 := (s4.trans s5).trans s6
              refine ⟨_, rfl, _, rfl, _, rfl, _, rfl, _, rfl, p1, p2, y.1, v, r1, r2, p, y.2, nm, hd, rfl, s456 _ _ e1, s456 _ _ e2, tv.mono (tx_same s456), ⟨s6 _ _ q1, fun q hq => s6 _ _ (sx.2 q (q2 q hq))⟩, R1, R2, ok, asc, by omega, fun H6 t L1 L2 ws s7 et eL1 tws eL2 => ⟨t, _, 1, _, rfl, rfl, SqT.of et, rfl, (by show 0 ≤ sizeLine; decide), fun e he => ?_⟩⟩
              have hz : goneUn r1 r2 hd p (y.2.map (·.2)) = [] := hshort _ (by rw [List.length_map]; omega) fun st hst => by
                obtain ⟨q, hq, rfl⟩ := List.mem_map.mp hst
                exact List.mem_map_of_mem (q2 q hq)
              refine ⟨List Int, inferInstance, dInts, goneUn r1 r2 hd p (y.2.map (·.2)), [], encIs, dp_ints (by rw [upd_ne (ne_of_none eL2 he)]; exact eL2), dp_ints upd_same, _, rfl, iteDN (fun c => absurd hz c) (fun _ => ?_)⟩
              exact ⟨_, rfl, same_newK (s6.trans s7) he⟩
            · rintro σ H' ⟨_, rfl, q⟩
              exact ⟨_, _, rfl, (s4.trans s5).trans q⟩
      · rintro σ H' ⟨v6, v7, rfl, s4⟩
        exact k _ s4
end
end L2.K83

set_option Elab.async false
set_option linter.all false
set_option maxRecDepth 100000
set_option maxHeartbeats 4000000
/-! What is asked of a lot that is told alike. -/
namespace L2.K83
open PySem PySem.Spec PyProof.Rows L2.KB
section
variable {P : Program} {w : World} {K : PySem.W.Frag} {mg : Str → Option Value} {base : Heap} {C : Addr} {f1 f2 f3 f4 : Addr} {fd1 fd2 fd3 fd4 : FuncData}
theorem pr_items {H : Hp} : ∀ {vs : List V} {ps : List (St0 × St0)}, TpA H vs (ps.map dPr) → ∃ cs : List (Addr × (St0 × St0)), cs.map (·.2) = ps ∧ vs = cs.map (fun c => V.ref c.1) ∧ ∀ c ∈ cs, Tp H (.ref c.1) (dPr c.2)
  | vs, [], h => by
    rw [List.map_nil] at h
    cases h
    exact ⟨[], rfl, rfl, fun c hc => by cases hc⟩
  | vs, p :: ps, h => by
    rw [List.map_cons] at h
    cases h with
    | cons h1 h2 =>
      obtain ⟨a, v1, v2, rfl, _⟩ := tp_pr h1
      obtain ⟨cs, e1, rfl, e3⟩ := pr_items h2
      refine ⟨(a, p) :: cs, by rw [List.map_cons, e1], rfl, fun c hc => ?_⟩
      rcases List.mem_cons.mp hc with rfl | hc
      · exact h1
      · exact e3 c hc
-- _law_alike_right: slots 0 _law_bag_here*, 1 _law_spans_here, 2 _law_others, 3 _law_stands, 4 _law_strokes_here*, 5 _law_counted, 6 _law_pairs*, 7 _law_pair, 8 _law_stroke, 9 _law_row, 10 _law_unlike, 11 _law_turn, 12 _law_gone_here, 13 _law_k
abbrev S__law_alike_right : Stmt := (topS 48)
abbrev N__law_alike_right : List Str := ["_law_bag_here", "_law_spans_here", "_law_others", "_law_stands", "_law_strokes_here", "_law_counted", "_law_pairs", "_law_pair", "_law_stroke", "_law_row", "_law_unlike", "_law_turn", "_law_gone_here", "_law_k"]
theorem sc__law_alike_right : FnScope N__law_alike_right ["_law_bag_here", "_law_spans_here", "_law_others", "_law_stands", "_law_strokes_here", "_law_counted", "_law_pairs"] (defScope S__law_alike_right) := ⟨rfl, rfl, rfl, by decide +kernel, rfl, by decide +kernel, by decide +kernel⟩
def sp_alike : Sp := fun vs H Q _ => ∃ (b a : Addr) (ns : List Int) (p1 p2 sa L : Addr) (v : V) (r1 r2 : List Int) (p : St0 × St0) (l : List (Addr × List Str)) (ps : List (St0 × St0)) (ws : List V) (nm : List Str) (hd : Bool), vs = [.ref b, .ref p1, .ref p2, v, .ref sa, .bl hd, .ref L] ∧ Bag H b a ns ∧ H p1 = some (.lst (r1.map V.int)) ∧ H p2 = some (.lst (r2.map V.int)) ∧ Tp H v (dPr p) ∧ SS H sa l ∧ H L = some (.lst ws) ∧ TpA H ws (ps.map dPr) ∧ OkR nm r1 ∧ OkR nm r2 ∧ Asc nm ∧ 1 ≤ l.length ∧ l.length ≤ 8 ∧ ps.length ≤ 200 ∧
  ps.Nodup ∧ p ∈ ps ∧ (∀ q ∈ ps, OkP nm q) ∧ (∀ q ∈ ps, ∀ st ∈ l.map (·.2), ∃ q', nxP r1 r2 hd q st = some q' ∧ q' ∈ ps) ∧
  ∀ H', Kp H H' → Bag H' b a ns → Q (.bl true) H'
theorem ok_alike {f : Addr} {fd : FuncData} (F : Fun K "_law_alike_right" "_law_alike_right" S__law_alike_right f fd) (T : Txt K mg C) (D_law_take : Fd P w K mg base CX0 1 "_law_take" f1 fd1 ["_law_bag_here", "_law_many"] sp_take) (D_law_gone : Fd P w K mg base CX0 3 "_law_gone" f2 fd2 ["_law_spans_here", "_law_others", "_law_stands", "_law_row", "_law_counted"] sp_gone) :
    FnOk P w K mg base CX0 4 f fd ["_law_bag_here", "_law_spans_here", "_law_others", "_law_stands", "_law_strokes_here", "_law_counted", "_law_pairs"] sp_alike := by
  refine F.ok sc__law_alike_right (fun vs H Q E h => ?_) (fun cdv A outer s H vs Q E hr h => ?_)
  · obtain ⟨b, a, ns, p1, p2, sa, L, v, r1, r2, p, l, ps, ws, nm, hd, rfl, _⟩ := h
    rfl
  · obtain ⟨b, a, ns, p1, p2, sa, L, v, r1, r2, p, l, ps, ws, nm, hd, rfl, B, e1, e2, tv, S, eL, tx, R1, R2, asc, h1, h8, hps, nd, hp, okp, cl, k⟩ := h
    obtain ⟨cs, hcs, rfl, tcs⟩ := pr_items tx
    have lcs : cs.length = ps.length := by rw [← hcs, List.length_map]
    refine ⟨_, (pss_cons (ps_if (PW.pt (pw_or (pt_cmpR (op_notInE hr.units) (pv 3) (pv 6) (by rfl)) (pw_or1 (pt_cmpR op_ne (pe_callB call_lenN (by rfl) T.b_len PySem.boot_len (pa_cons (pe_callTy (call_dictPN hr.units rfl) (by rfl) T.b_dict (by decide +kernel) (pa_cons (pe_lc (own := [("_law_pair", 7)]) (g := (gName 7)) (tt := tYes) rfl sc__law_alike_right.nd (pi_list (pv 6)) (blkOk_by (own := [("_law_pair", 7)]) (N := N__law_alike_right) (sc := defScope S__law_alike_right) (by decide +kernel)) (fun _ _ _ _ _ => (pg_name (i := 7) sc__law_alike_right.nd rfl (Or.inl rfl))) (fun _ _ _ _ _ => pts_nil) (fun _ _ _ _ _ => (pe_tup (pa_cons (pv 7) (pa_cons pe_bl pa_nil))))) pa_nil)) pa_nil)) (pe_callB call_len_seq (by rfl) T.b_len PySem.boot_len (pa_cons (pv 6) pa_nil)) (nomark _))))) (pss_one (ps_ret pe_bl)) pss_nil)
      (pss_cons (ps_for PassesOwn.never rfl (pi_list (pv 6)) (pg_name (i := 7) sc__law_alike_right.nd rfl (Or.inl rfl))
        (pss_one (ps_for PassesOwn.never rfl (pi_list (pv 4)) (pg_name (i := 8) sc__law_alike_right.nd rfl (Or.inl rfl))
          (pss_cons (ps_asg (pe_call D_law_gone.ok (hr.mono (by decide)) rfl D_law_gone.m D_law_gone.kp D_law_gone.b .nil pass0 (pa_cons (pv 1) (pa_cons (pv 2) (pa_cons (pv 7) (pa_cons (pe_lst (pa_cons (pv 8) pa_nil)) (pa_cons (pv 5) pa_nil)))))) (pg_tup rfl (pgs_cons (pg_name (i := 9) sc__law_alike_right.nd rfl (Or.inl rfl)) (pgs_cons (pg_name (i := 10) sc__law_alike_right.nd rfl (Or.inl rfl)) pgs_nil))))
          (pss_one (ps_if (PW.pt (pw_or (pt_cmpR (op_neE hr.units) (pv 10) (pe_lst pa_nil) (nomark _)) (pw_or1 (pt_cmpR (op_notInE hr.units) (pe_ix ix_list (pv 9) pe_int (fun _ _ => rfl)) (pv 6) (by rfl))))) (pss_one (ps_ret pe_bl)) pss_nil))))))
      (pss_cons (ps_for PassesOwn.never rfl (pi_range1 rfl T.b_range (pa_cons pe_int pa_nil)) (pg_name (i := 11) sc__law_alike_right.nd rfl (Or.inl rfl))
        (pss_cons (ps_setLc (i := 9) (own := [("_law_k", 13)]) (g := (gName 13)) (tt := tYes) rfl sc__law_alike_right.nd rfl rfl (sw_true rfl rfl rfl (by decide +kernel)) (pi_range1 rfl T.b_range (pa_cons (pe_call D_law_take.ok (hr.mono (by decide)) rfl D_law_take.m D_law_take.kp D_law_take.b .nil pass0 (pa_cons (pv 0) (pa_cons pe_int pa_nil))) pa_nil)) (blkOk_by (own := [("_law_k", 13)]) (N := N__law_alike_right) (sc := defScope S__law_alike_right) (by decide +kernel)) (fun _ _ _ _ _ => (pg_name (i := 13) sc__law_alike_right.nd rfl (Or.inl rfl))) (fun _ _ _ _ _ => pts_nil) (fun _ _ _ _ _ => (pe_ix (ix_listK (K := K) rfl) (pv 4) (pe_call D_law_take.ok (hr.mono (by decide)) rfl D_law_take.m D_law_take.kp D_law_take.b .nil pass0 (pa_cons (pv 0) (pa_cons (pe_callB (call_len_seqK (K := K) rfl) (by rfl) T.b_len PySem.boot_len (pa_cons (pv 4) pa_nil)) pa_nil))) (fun _ _ => rfl))))
        (pss_cons (ps_asg (pe_call D_law_gone.ok (hr.mono (by decide)) rfl D_law_gone.m D_law_gone.kp D_law_gone.b .nil pass0 (pa_cons (pv 1) (pa_cons (pv 2) (pa_cons (pv 3) (pa_cons (pv 9) (pa_cons (pv 5) pa_nil)))))) (pg_tup rfl (pgs_cons (pg_name (i := 12) sc__law_alike_right.nd rfl (Or.inl rfl)) (pgs_cons (pg_name (i := 10) sc__law_alike_right.nd rfl (Or.inl rfl)) pgs_nil))))
        (pss_one (ps_if (PW.pt (pw_or (pt_cmpR (op_neE hr.units) (pv 10) (pe_lst pa_nil) (nomark _)) (pw_or1 (pt_not (pt_val (pe_callB (cr_all rfl) (by rfl) T.b_all (by decide +kernel) (pa_cons (pe_lc (own := [("_law_pair", 7)]) (g := (gName 7)) (tt := tYes) rfl sc__law_alike_right.nd (pi_list (pv 12)) (blkOk_by (own := [("_law_pair", 7)]) (N := N__law_alike_right) (sc := defScope S__law_alike_right) (by decide +kernel)) (fun _ _ _ _ _ => (pg_name (i := 7) sc__law_alike_right.nd rfl (Or.inl rfl))) (fun _ _ _ _ _ => pts_nil) (fun _ _ _ _ _ => (pe_cmpR (op_inEK (K := K) rfl hr.units) (pv 7) (pv 6) (by rfl)))) pa_nil))))))) (pss_one (ps_ret pe_bl)) pss_nil)))))
      (pss_one (ps_ret pe_bl))))), ?_⟩
    refine ⟨_, rfl, _, rfl, St0 × St0, inferInstance, dPr, p, ps, encPr, tv.dp, .lst (SqL.of eL) tx.dp, _, rfl, iteDN (fun c => absurd hp c) (fun _ => ?_)⟩
    refine ⟨_, rfl, L, rfl, ⟨_, SqL.of eL⟩, fun D hD => lc_list (K := K) (a := L) (xs := cs.map fun c => V.ref c.1) (fun i H' => ∃ bs : List Addr, H' D = some (.lst (bs.map V.ref)) ∧ PrsAt H' bs ((cs.take i).map fun c => ((kPr c.2, c.1, V.bl true) : NE)) ∧ Same H H') ?_ ?_ ?_ ?_⟩
    · exact ⟨[], upd_same, .nil, same_newK (fun _ _ h => h) hD⟩
    · rintro i H' _ ⟨bs, _, _, g⟩
      exact SqL.of (g _ _ eL)
    · rintro i x H' hi ⟨bs, g1, g2, g3⟩
      obtain ⟨c, hc, rfl⟩ := map_get hi
      have hil : i < cs.length := (List.getElem?_eq_some_iff.mp hc).1
      have lb : bs.length = i := by
        have := Paired.length g2
        rw [List.length_map, List.length_take] at this
        omega
      refine ⟨rfl, _, rfl, (by show 2 ≤ sizeLine; decide), fun t ht => ?_⟩
      have nDt := ne_of_none g1 ht
      have gDt : (upd H' t (.tup [.ref c.1, .bl true])) D = some (.lst (bs.map V.ref)) := by rw [upd_ne nDt]; exact g1
      refine ⟨_, gDt, ?_, bs ++ [t], ?_, ?_, same_upd (same_newK g3 ht) hD⟩
      · rw [List.length_map]; exact small1000 (by omega)
      · rw [upd_same, List.map_append]; rfl
      · rw [take_succ hc, List.map_append]
        refine Paired.snoc (Paired.mono (fun b e h => ((tx_new ht).trans (tx_updL gDt)) _ _ h) g2) ?_
        show (upd _ D _) t = _
        rw [upd_ne nDt.symm]; exact upd_same
    · rintro H1 ⟨bs, g1, g2, g3⟩
      rw [List.length_map, List.take_length] at g2
      have ek : (kvE (cs.map fun c => ((kPr c.2, c.1, V.bl true) : NE))).map (·.1) = ps.map kPr := by
        rw [← hcs]; unfold kvE; rw [List.map_map, List.map_map, List.map_map]; rfl
      have ndk : (ps.map kPr).Nodup := List.pairwise_map.mpr (nd.imp fun h e => h (kPr_inj e))
      have hput : putAll [] (kvE (cs.map fun c => ((kPr c.2, c.1, V.bl true) : NE))) = kvE (cs.map fun c => ((kPr c.2, c.1, V.bl true) : NE)) := putAll_new _ [] (by rw [List.nil_append, ek]; exact ndk)
      refine ⟨D, bs, _, rfl, SqL.of g1, g2, fun e he => ?_, fun d o hd Dn => ⟨d, _, rfl, Dn, ?_⟩⟩
      · obtain ⟨c, hc, rfl⟩ := List.mem_map.mp he
        refine ⟨?_, Nat.le_trans (depth_pr c.2) (by decide)⟩
        show Tp H1 (.ref c.1) (kPr c.2).data
        rw [data_pr]
        exact (tcs c hc).mono (tx_same g3)
      have s2 := same_newK g3 (o := o) hd
      have leq : ((putAll [] (kvE (cs.map fun c => ((kPr c.2, c.1, V.bl true) : NE)))).length : Int) = ((cs.map fun c => V.ref c.1).length : Int) := by
        rw [hput]; unfold kvE; rw [List.length_map, List.length_map, List.length_map]
      refine ⟨_, rfl, L, _, rfl, .inl (SqL.of (s2 _ _ eL)), rfl, _, rfl, iteDN (fun c => absurd (congrArg V.int leq) c) (fun _ => ?_)⟩
      have G2 := (BK.start B).same s2
      generalize hH2 : upd H1 d o = H2 at G2
      clear hH2 Dn s2 hd g1 g2 g3 leq hput ek ndk hD
      -- what stands as long as the bag may change
      have tL : ∀ {H' : Hp}, BK b a ns H H' → H' L = some (.lst (cs.map fun c => V.ref c.1)) := fun G => G.kp.get eL (refs_nobag _ _)
      have tT : ∀ {H' : Hp}, BK b a ns H H' → TpA H' (cs.map fun c => V.ref c.1) (ps.map dPr) := fun G => tx.mono (tx_kp G.kp)
      have tS : ∀ {H' : Hp}, BK b a ns H H' → SS H' sa l := fun G => S.kp G.kp
      have t1 : ∀ {H' : Hp}, BK b a ns H H' → H' p1 = some (.lst (r1.map V.int)) := fun G => G.kp.get e1 (ints_nobag _)
      have t2 : ∀ {H' : Hp}, BK b a ns H H' → H' p2 = some (.lst (r2.map V.int)) := fun G => G.kp.get e2 (ints_nobag _)
      refine ⟨_, rfl, L, rfl, ⟨_, SqL.of (tL G2)⟩, for_list (K := K) (a := L) (xs := cs.map fun c => V.ref c.1) (fun i σ H' => ∃ v7 v8 v9 v10 : Option V, σ = [some (.ref b), some (.ref p1), some (.ref p2), some v, some (.ref sa), some (.bl hd), some (.ref L), v7, v8, v9, v10, none, none, none] ∧ BK b a ns H H') ⟨none, none, none, none, rfl, G2⟩ ?_ ?_ ?_⟩
      · rintro i σ H' _ ⟨_, _, _, _, rfl, G⟩
        exact SqL.of (tL G)
      · rintro i x σ H3 hi ⟨v7, v8, v9, v10, rfl, G3⟩
        obtain ⟨c, hc, rfl⟩ := map_get hi
        have hcm := List.mem_of_getElem? hc
        have hcp : c.2 ∈ ps := by rw [← hcs]; exact List.mem_map_of_mem hcm
        refine ⟨_, rfl, sa, rfl, ⟨_, SqL.of (tS G3).1⟩, for_list (K := K) (a := sa) (xs := l.map fun q => V.ref q.1) (fun j σ H' => ∃ v8 v9 v10 : Option V, σ = [some (.ref b), some (.ref p1), some (.ref p2), some v, some (.ref sa), some (.bl hd), some (.ref L), some (.ref c.1), v8, v9, v10, none, none, none] ∧ BK b a ns H H') ⟨_, _, _, rfl, G3⟩ ?_ ?_ ?_⟩
        · rintro j σ H' _ ⟨_, _, _, rfl, G⟩
          exact SqL.of (tS G).1
        · rintro j x σ H4 hj ⟨v8, v9, v10, rfl, G4⟩
          obtain ⟨q, hq, rfl⟩ := map_get hj
          have hqm := List.mem_of_getElem? hq
          obtain ⟨q', hn', hq'⟩ := cl c.2 hcp q.2 (List.mem_map_of_mem hqm)
          refine ⟨_, rfl, _, rfl, _, rfl, _, rfl, (by show 1 ≤ sizeLine; decide), fun e he => ⟨_, rfl, ?_⟩⟩
          have s5 := same_newK (fun _ _ h => h : Same H4 H4) (o := .lst [.ref q.1]) he
          have G5 := G4.same s5
          have Se : SS (upd H4 e (.lst [.ref q.1])) e [q] := ⟨upd_same, fun y hy => by
            have : y = q := List.mem_singleton.mp hy
            subst this
            exact (tS G5).2 y hqm⟩
          refine ⟨p1, p2, e, .ref c.1, r1, r2, c.2, [q], nm, hd, rfl, t1 G5, t2 G5, (tcs c hcm).mono (tx_kp G5.kp), Se, R1, R2, okp _ hcp, asc, (by decide : 1 ≤ 500), fun H6 t L1 L2 us s6 et eL1 tus eL2 => ⟨t, _, rfl, SqT.of et, rfl, _, _, rfl, _, _, rfl, rfl, ?_⟩⟩
          have G6 := G5.same s6
          have hrun : KM.run (nxP r1 r2 hd) c.2 [q.2] = some q' := by rw [KM.run_cons, hn']; rfl
          have hz : goneUn r1 r2 hd c.2 ([q].map (·.2)) = [] := goneUn_run ⟨q', hrun⟩
          refine ⟨_, rfl, (by show 0 ≤ sizeLine; decide), fun e2' he2 => ?_⟩
          have G7 := G6.new (o := .lst []) he2
          refine ⟨List Int, inferInstance, dInts, goneUn r1 r2 hd c.2 ([q].map (·.2)), [], encIs, dp_ints (by rw [upd_ne (ne_of_none eL2 he2)]; exact eL2), dp_ints upd_same, _, rfl, iteDN (fun z => absurd hz z) (fun _ => ?_)⟩
          have eL1' : (upd H6 e2' (.lst [])) L1 = some (.lst us) := by rw [upd_ne (ne_of_none eL1 he2)]; exact eL1
          obtain ⟨w', hw1, hw2⟩ := tus.get' (i := 1) (d := dPr q') (get_map (by
            show (gonePs r1 r2 c.2 [q.2])[1]? = some q'
            rw [run_cur _ hrun]; rfl))
          refine ⟨_, rfl, L1, _, 1, w', rfl, rfl, SqL.of eL1', atI_nat hw1, _, rfl, St0 × St0, inferInstance, dPr, q', ps, encPr, (hw2.mono (tx_new he2)).dp, .lst (SqL.of (tL G7)) (tT G7).dp, _, rfl, iteDN (fun z => absurd hq' z) (fun _ => ?_)⟩
          exact ⟨_, _, _, rfl, G7⟩
        · rintro σ H4 ⟨_, _, _, rfl, G4⟩
          exact ⟨_, _, _, _, rfl, G4⟩
      · rintro σ H3 ⟨v7, v8, v9, v10, rfl, G3⟩
        refine ⟨6, rfl, by decide, by decide, for_range (lo := 0) (n := 6) (fun i σ H' => ∃ v9 v10 v11 v12 : Option V, σ = [some (.ref b), some (.ref p1), some (.ref p2), some v, some (.ref sa), some (.bl hd), some (.ref L), v7, v8, v9, v10, v11, v12, none] ∧ BK b a ns H H') ⟨_, _, _, _, rfl, G3⟩ ?_ ?_⟩
        · rintro i σ H4 hi ⟨v9, v10, v11, v12, rfl, G4⟩
          refine ⟨_, rfl, b, a, ns, 13, rfl, G4.bg, by decide, by decide, fun H5 n k5 B5 n1 n2 => ⟨n, rfl, by omega, by omega, fun D2 hD2 => lc_range (lo := 0) (n := n.toNat) (fun j H' => ∃ lr : List (Addr × List Str), BK b a ns H H' ∧ H' D2 = some (.lst (lr.map fun q => V.ref q.1)) ∧ (∀ q ∈ lr, q ∈ l) ∧ lr.length = j) ?_ ?_ ?_⟩⟩
          · exact ⟨[], (G4.step k5 B5).new hD2, upd_same, (by intro q hq; cases hq), rfl⟩
          · rintro j H6 hj ⟨lr, G6, g1, g2, g3⟩
            refine ⟨rfl, _, rfl, _, rfl, _, rfl, sa, _, rfl, .inl (SqL.of (tS G6).1), b, a, ns, _, rfl, G6.bg, by rw [List.length_map]; omega, by rw [List.length_map]; omega, fun H7 u k7 B7 u1 u2 => ?_⟩
            rw [List.length_map] at u2
            have G7 := G6.step k7 B7
            have hu : u.toNat < l.length := by omega
            have hul : l[u.toNat]? = some l[u.toNat] := List.getElem?_eq_getElem hu
            have D20 : H D2 = none := (G4.step k5 B5).kp.free hD2
            refine ⟨sa, _, u, .ref l[u.toNat].1, rfl, rfl, SqL.of (tS G7).1, atI_int u1 (get_map (f := fun q : Addr × List Str => V.ref q.1) hul), _, k7.get g1 (refs_nobag _ _), ?_, lr ++ [l[u.toNat]], G7.upd D20, ?_, ?_, ?_⟩
            · rw [List.length_map]; exact small1000 (by omega)
            · rw [upd_same, List.map_append]; rfl
            · intro q hq
              rcases List.mem_append.mp hq with z | z
              · exact g2 q z
              · have : q = l[u.toNat] := List.mem_singleton.mp z
                subst this; exact List.getElem_mem hu
            · rw [List.length_append, g3]; rfl
          · rintro H6 ⟨lr, G6, g1, g2, g3⟩
            have Sr : SS H6 D2 lr := ⟨g1, fun q hq => (tS G6).2 q (g2 q hq)⟩
            have hrow : ∀ st ∈ lr.map (·.2), st ∈ l.map (·.2) := fun st hst => by
              obtain ⟨q, hq, rfl⟩ := List.mem_map.mp hst
              exact List.mem_map_of_mem (g2 q hq)
            obtain ⟨qe, hrun, _⟩ := gone_mem hp cl _ hrow
            have hz := goneUn_run ⟨qe, hrun⟩
            refine ⟨_, rfl, _, rfl, _, rfl, _, rfl, _, rfl, p1, p2, D2, v, r1, r2, p, lr, nm, hd, rfl, t1 G6, t2 G6, tv.mono (tx_kp G6.kp), Sr, R1, R2, okp _ hp, asc, by omega, fun H7 t L1 L2 us s7 et eL1 tus eL2 => ⟨t, _, rfl, SqT.of et, rfl, _, _, rfl, _, _, rfl, rfl, ?_⟩⟩
            have G7 := G6.same s7
            refine ⟨_, rfl, (by show 0 ≤ sizeLine; decide), fun e2' he2 => ?_⟩
            have G8 := G7.new (o := .lst []) he2
            refine ⟨List Int, inferInstance, dInts, goneUn r1 r2 hd p (lr.map (·.2)), [], encIs, dp_ints (by rw [upd_ne (ne_of_none eL2 he2)]; exact eL2), dp_ints upd_same, _, rfl, iteDN (fun z => absurd hz z) (fun _ => ?_)⟩
            have eL1' : (upd H7 e2' (.lst [])) L1 = some (.lst us) := by rw [upd_ne (ne_of_none eL1 he2)]; exact eL1
            have tus' := tus.mono (tx_new he2 (o := .lst []))
            have lus : us.length ≤ 14 := by
              rw [tus.length, List.length_map]; unfold gonePs; rw [psN_len, List.length_map]; omega
            generalize hH8 : upd H7 e2' (.lst []) = H8 at G8 eL1' tus'
            refine ⟨_, rfl, L1, rfl, ⟨_, SqL.of eL1'⟩, fun D3 hD3 => lc_list (K := K) (a := L1) (xs := us) (fun j H' => H' D3 = some (.lst ((List.replicate j true).map V.bl)) ∧ Same H8 H') ?_ ?_ ?_ ?_⟩
            · exact ⟨upd_same, same_newK (fun _ _ h => h) hD3⟩
            · rintro j H' _ ⟨_, q⟩
              exact SqL.of (q _ _ eL1')
            · rintro j y H9 hj ⟨q1, q2⟩
              obtain ⟨z, hz1, hz2⟩ := tpa_item tus' hj
              have hjl : j < us.length := (List.getElem?_eq_some_iff.mp hj).1
              have hm := gonePs_mem hp cl hrow z (List.mem_of_getElem? hz1)
              have G9 := G8.same q2
              refine ⟨rfl, _, rfl, _, rfl, St0 × St0, inferInstance, dPr, z, ps, encPr, (hz2.mono (tx_same q2)).dp, .lst (SqL.of (tL G9)) (tT G9).dp, _, q1, ?_, ?_, same_upd q2 hD3⟩
              · rw [List.length_map, List.length_replicate]; exact small1000 (by omega)
              · rw [upd_same, List.replicate_succ', List.map_append]
                exact congrArg (fun z => some (HO.lst ((List.replicate j true).map V.bl ++ [V.bl z]))) (dtrue hm)
            · rintro H9 ⟨q1, q2⟩
              refine ⟨D3, _, rfl, SqL.of q1, true, congrArg V.bl (by simp), iteF ?_⟩
              exact ⟨_, _, _, _, rfl, G8.same q2⟩
        · rintro σ H4 ⟨v9, v10, v11, v12, rfl, G4⟩
          exact k _ G4.kp G4.bg
end
end L2.K83

set_option Elab.async false
set_option linter.all false
set_option maxRecDepth 100000
set_option maxHeartbeats 4000000
/-! The program: numbers, books, one beat. -/
namespace L2.K83
open PySem PySem.Spec PyProof.Rows L2.KB
section
variable {P : Program} {w : World} {K : PySem.W.Frag} {mg : Str → Option Value} {base : Heap} {C : Addr} {f1 f2 f3 f4 f5 : Addr} {fd1 fd2 fd3 fd4 fd5 : FuncData}
-- is_whole: slots 0 thing
abbrev S_is_whole : Stmt := (topS 11)
abbrev N_is_whole : List Str := ["thing"]
theorem sc_is_whole : FnScope N_is_whole ["thing"] (defScope S_is_whole) := ⟨rfl, rfl, rfl, by decide +kernel, rfl, by decide +kernel, by decide +kernel⟩
def sp_whole : Sp := fun vs H Q _ => ∃ i : Int, vs = [.int i] ∧ Q (.bl true) H
theorem ok_whole {f : Addr} {fd : FuncData} (F : Fun K "is_whole" "is_whole" S_is_whole f fd) (T : Txt K mg C) : FnOk P w K mg base CX0 1 f fd ["thing"] sp_whole := by
  refine F.ok sc_is_whole (fun vs H Q E h => ?_) (fun cdv A outer s H vs Q E hr h => ?_)
  · obtain ⟨i, rfl, _⟩ := h
    rfl
  · obtain ⟨i, rfl, k⟩ := h
    refine ⟨_, (pss_one (ps_ret (pe_and (pe_callB call_isi (by rfl) T.b_isinstance (by decide +kernel) (pa_cons (pv 0) (pa_cons (pe_bltn (v := .ty "int") (by rfl) T.b_int (by decide +kernel) rfl) pa_nil))) (pe_one (pe_not (pe_callB call_isi (by rfl) T.b_isinstance (by decide +kernel) (pa_cons (pv 0) (pa_cons (pe_bltn (v := .ty "bool") (by rfl) T.b_bool (by decide +kernel) rfl) pa_nil)))))))), ?_⟩
    exact ⟨_, rfl, .int i, .ty "int", .type "int", .type "int", true, rfl, .ty _, .base (.int i), kit_ty (by decide +kernel), true, rfl, iteT ⟨_, rfl, .int i, .ty "bool", .type "int", .type "bool", false, rfl, .ty _, .base (.int i), kit_ty (by decide +kernel), false, rfl, k⟩⟩
-- is_between: slots 0 thing, 1 low, 2 high
abbrev S_is_between : Stmt := (topS 12)
abbrev N_is_between : List Str := ["thing", "low", "high"]
theorem sc_is_between : FnScope N_is_between ["thing", "low", "high"] (defScope S_is_between) := ⟨rfl, rfl, rfl, by decide +kernel, rfl, by decide +kernel, by decide +kernel⟩
def sp_between : Sp := fun vs H Q _ => ∃ i lo hi : Int, vs = [.int i, .int lo, .int hi] ∧ Q (.bl (decide (lo ≤ i ∧ i ≤ hi))) H
theorem ok_between {f : Addr} {fd : FuncData} (F : Fun K "is_between" "is_between" S_is_between f fd) (T : Txt K mg C) (Dis_whole : Fd P w K mg base CX0 1 "is_whole" f1 fd1 ["thing"] sp_whole) : FnOk P w K mg base CX0 2 f fd ["thing", "low", "high"] sp_between := by
  refine F.ok sc_is_between (fun vs H Q E h => ?_) (fun cdv A outer s H vs Q E hr h => ?_)
  · obtain ⟨i, lo, hi, rfl, _⟩ := h
    rfl
  · obtain ⟨i, lo, hi, rfl, k⟩ := h
    refine ⟨_, (pss_one (ps_ret (pe_and (pe_call Dis_whole.ok (hr.mono (by decide)) rfl Dis_whole.m Dis_whole.kp Dis_whole.b .nil pass0 (pa_cons (pv 0) pa_nil)) (pe_one (pe_chain op_le op_le (pv 1) (pv 0) (pv 2)))))), ?_⟩
    refine ⟨_, rfl, i, rfl, true, rfl, iteT ⟨_, rfl, _, rfl, _, _, rfl, rfl, _, rfl, iteD (fun c => ?_) (fun c => ?_)⟩⟩
    · refine ⟨_, rfl, _, _, rfl, rfl, ?_⟩
      have e : decide (lo ≤ i ∧ i ≤ hi) = decide (i ≤ hi) := decide_eq_decide.mpr ⟨fun h => h.2, fun h => ⟨c, h⟩⟩
      rw [e] at k
      exact k
    · have e : decide (lo ≤ i ∧ i ≤ hi) = false := decide_eq_false fun h => c h.1
      rw [e] at k
      exact k
-- is_length: slots 0 thing
abbrev S_is_length : Stmt := (topS 13)
abbrev N_is_length : List Str := ["thing"]
theorem sc_is_length : FnScope N_is_length ["thing"] (defScope S_is_length) := ⟨rfl, rfl, rfl, by decide +kernel, rfl, by decide +kernel, by decide +kernel⟩
def sp_length : Sp := fun vs H Q _ => ∃ i : Int, vs = [.int i] ∧ 1 ≤ i ∧ i ≤ 1000 ∧ Q (.bl true) H
theorem ok_length {f : Addr} {fd : FuncData} (F : Fun K "is_length" "is_length" S_is_length f fd) (T : Txt K mg C) (Dis_between : Fd P w K mg base CX0 2 "is_between" f1 fd1 ["thing", "low", "high"] sp_between) : FnOk P w K mg base CX0 3 f fd ["thing"] sp_length := by
  refine F.ok sc_is_length (fun vs H Q E h => ?_) (fun cdv A outer s H vs Q E hr h => ?_)
  · obtain ⟨i, rfl, _⟩ := h
    rfl
  · obtain ⟨i, rfl, h1, h2, k⟩ := h
    refine ⟨_, (pss_one (ps_ret (pe_call Dis_between.ok (hr.mono (by decide)) rfl Dis_between.m Dis_between.kp Dis_between.b .nil pass0 (pa_cons (pv 0) (pa_cons pe_int (pa_cons (pe_glob (v := .int 1000000000) rfl T.ML.choose_spec ⟨_, rfl⟩) pa_nil)))))), ?_⟩
    refine ⟨_, rfl, i, 1, 1000000000, rfl, ?_⟩
    rw [decide_eq_true ⟨h1, by omega⟩]
    exact k
/-- a book of these lengths -/
def BookAt (C : Addr) (H : Hp) (p : Addr) (rows : List Int) : Prop := ∃ dx t, H p = some (.ins C dx [("rows", .ref t)]) ∧ H t = some (.tup (rows.map V.int))
theorem BookAt.same {H H' : Hp} {p : Addr} {rows : List Int} (h : BookAt C H p rows) (s : Same H H') : BookAt C H' p rows := by
  obtain ⟨dx, t, h1, h2⟩ := h
  exact ⟨dx, t, s _ _ h1, s _ _ h2⟩
theorem BookAt.kp {H H' : Hp} {p : Addr} {rows : List Int} (h : BookAt C H p rows) (s : Kp H H') : BookAt C H' p rows := by
  obtain ⟨dx, t, h1, h2⟩ := h
  exact ⟨dx, t, s.get h1, s.get h2⟩
-- Book.sleep: slots 0 self, 1 many
abbrev S_Bsleep : Stmt := (inClass (topS 25) 2)
abbrev N_Bsleep : List Str := ["self", "many"]
theorem sc_Bsleep : FnScope N_Bsleep ["self", "many"] (defScope S_Bsleep) := ⟨rfl, rfl, rfl, by decide +kernel, rfl, by decide +kernel, by decide +kernel⟩
def sp_sleep (C : Addr) : Sp := fun vs H Q _ => ∃ (p : Addr) (rows : List Int) (m : Int), vs = [.ref p, .int m] ∧ BookAt C H p rows ∧ 1 ≤ m ∧ m ≤ rows.length ∧ Q (.int (rows.getD (m - 1).toNat 0)) H
theorem ok_sleep {f : Addr} {fd : FuncData} (F : Fun K "sleep" "Book.sleep" S_Bsleep f fd) (T : Txt K mg C) (Dis_between : Fd P w K mg base CX0 2 "is_between" f1 fd1 ["thing", "low", "high"] sp_between) : FnOk P w K mg base CX0 3 f fd ["self", "many"] (sp_sleep C) := by
  refine F.ok sc_Bsleep (fun vs H Q E h => ?_) (fun cdv A outer s H vs Q E hr h => ?_)
  · obtain ⟨p, rows, m, rfl, _⟩ := h
    rfl
  · obtain ⟨p, rows, m, rfl, ⟨dx, t, e1, e2⟩, h1, h2, k⟩ := h
    refine ⟨_, (pss_cons (ps_if (pt_not (pt_val (pe_call Dis_between.ok (hr.mono (by decide)) rfl Dis_between.m Dis_between.kp Dis_between.b .nil pass0 (pa_cons (pv 1) (pa_cons pe_int (pa_cons (pe_callB call_len_seq (by rfl) T.b_len PySem.boot_len (pa_cons (pe_fld (pv 0) rfl) pa_nil)) pa_nil)))))) (pss_one ps_never) pss_nil)
      (pss_one (ps_ret (pe_ix ix_tup (pe_fld (pv 0) rfl) (pe_op op_sub (pv 1) pe_int) (fun _ _ => rfl))))), ?_⟩
    refine ⟨_, rfl, _, rfl, p, C, dx, _, _, rfl, e1, T.clB, T.nR, rfl, t, _, rfl, .inr (SqT.of e2), m, 1, _, rfl, _, rfl, ?_⟩
    rw [List.length_map, decide_eq_true ⟨h1, h2⟩]
    refine iteF ?_
    have hx : (m - 1).toNat < rows.length := by omega
    have hg : rows[(m - 1).toNat]? = some (rows.getD (m - 1).toNat 0) := by rw [List.getD_eq_getElem?_getD, List.getElem?_eq_getElem hx]; rfl
    exact ⟨_, rfl, p, C, dx, _, _, rfl, e1, T.clB, T.nR, rfl, _, rfl, _, _, rfl, rfl, t, _, _, _, rfl, rfl, SqT.of e2, atI_int (by omega) (get_map hg), k⟩
-- with_calls: slots 0 standing, 1 stroke*, 2 name, 3 rest
abbrev S_with_calls : Stmt := (topS 2)
abbrev N_with_calls : List Str := ["standing", "stroke", "name", "rest"]
theorem sc_with_calls : FnScope N_with_calls ["standing", "stroke"] (defScope S_with_calls) := ⟨rfl, rfl, rfl, by decide +kernel, rfl, by decide +kernel, by decide +kernel⟩
def sp_with : Sp := fun vs H Q _ => ∃ (v : V) (kk : Addr) (s : St0) (st : List Str), vs = [v, .ref kk] ∧ Tp H v (dSt s) ∧ s.length ≤ 40 ∧ H kk = some (.lst (st.map V.str)) ∧ ∀ (H' : Hp) (v' : V), Same H H' → Tp H' v' (dSt (callS st s)) → Q v' H'
theorem ok_with {f : Addr} {fd : FuncData} (F : Fun K "with_calls" "with_calls" S_with_calls f fd) (T : Txt K mg C) : FnOk P w K mg base CX0 1 f fd ["standing", "stroke"] sp_with := by
  refine F.ok sc_with_calls (fun vs H Q E h => ?_) (fun cdv A outer s H vs Q E hr h => ?_)
  · obtain ⟨v, kk, s, st, rfl, _⟩ := h
    rfl
  · obtain ⟨v, kk, s, st, rfl, tv, ls, ek, k⟩ := h
    obtain ⟨ta, xs, rfl, et, tx⟩ := tp_st tv
    have lx : xs.length = s.length := by rw [tx.length, List.length_map]
    refine ⟨_, (pss_one (ps_ret (pe_callTy call_tuple_of (by rfl) T.b_tuple (by decide +kernel) (pa_cons (pe_lc (own := [("name", 2), ("rest", 3)]) (g := (gTup K 2 (gCons (gName 2) (gCons (gName 3) gNil)))) (tt := tYes) rfl sc_with_calls.nd (pi_tup (pv 0)) (blkOk_by (own := [("name", 2), ("rest", 3)]) (N := N_with_calls) (sc := defScope S_with_calls) (by decide +kernel)) (fun _ _ _ _ _ => (by exact (pg_tupK (K := K) rfl rfl (pgs_cons (pg_name (i := 2) sc_with_calls.nd rfl (Or.inl rfl)) (pgs_cons (pg_name (i := 3) sc_with_calls.nd rfl (Or.inl rfl)) pgs_nil))))) (fun _ _ _ _ _ => pts_nil) (fun _ _ _ _ _ => (pe_tup (pa_cons (pv 2) (pa_cons (pe_ifExp (pt_cmpR (op_in_seqK (K := K) rfl) (pv 2) (pv 1) (by rfl)) pe_int (pv 3)) pa_nil))))) pa_nil)))), ?_⟩
    refine ⟨_, rfl, ta, rfl, ⟨_, SqT.of et⟩, fun D hD => lc_tup (K := K) (a := ta) (xs := xs) (fun i H' => ∃ vs : List V, H' D = some (.lst vs) ∧ TpA H' vs (((callS st s).take i).map dSl) ∧ Same H H') ?_ ?_ ?_ ?_⟩
    · exact ⟨[], upd_same, .nil, same_newK (fun _ _ h => h) hD⟩
    · rintro i H' _ ⟨vs, e1, e2, e3⟩
      exact SqT.of (e3 _ _ et)
    · rintro i x H1 hi ⟨vs, e1, e2, e3⟩
      obtain ⟨z, hz, tz⟩ := tpa_item tx hi
      obtain ⟨za, rfl, ez⟩ := tp_sl tz
      have hil : i < s.length := (List.getElem?_eq_some_iff.mp hz).1
      have el := e2.length
      rw [List.length_map, List.length_take, show (callS st s).length = s.length from List.length_map _, Nat.min_eq_left (Nat.le_of_lt hil)] at el
      refine ⟨za, _, rfl, SqT.of (e3 _ _ ez), rfl, _, _, rfl, _, _, rfl, rfl, rfl, ?_⟩
      have fin : ∀ r : Int, r = (if z.1 ∈ st then 1 else z.2) → ∀ t, H1 t = none → ∃ acc, (upd H1 t (.tup [.str z.1, .int r])) D = some (.lst acc) ∧ acc.length < sizeLine ∧ ∃ vs' : List V, (upd (upd H1 t (.tup [.str z.1, .int r])) D (.lst (acc ++ [.ref t]))) D = some (.lst vs') ∧ TpA (upd (upd H1 t (.tup [.str z.1, .int r])) D (.lst (acc ++ [.ref t]))) vs' (((callS st s).take (i + 1)).map dSl) ∧ Same H (upd (upd H1 t (.tup [.str z.1, .int r])) D (.lst (acc ++ [.ref t]))) := fun r er t ht => by
        have nDt := ne_of_none e1 ht
        have s2 := same_newK e3 (o := .tup [.str z.1, .int r]) ht
        refine ⟨vs, by rw [upd_ne nDt]; exact e1, small1000 (by omega), vs ++ [.ref t], upd_same, ?_, same_upd s2 hD⟩
        have hz2 : (callS st s)[i]? = some (z.1, r) := by rw [er]; exact get_map (f := fun p : Str × Int => (p.1, if p.1 ∈ st then 1 else p.2)) hz
        rw [take_succ hz2, List.map_append]
        refine TpA.snoc (e2.mono ?_) (tp_sl_of (p := (z.1, r)) ?_)
        · exact (tx_new ht).trans (tx_updL (by rw [upd_ne nDt]; exact e1))
        · show (upd _ D _) t = _
          rw [upd_ne nDt.symm]; exact upd_same
      refine ⟨_, rfl, _, rfl, _, rfl, kk, _, rfl, .inl (SqL.of (e3 _ _ ek)), rfl, flat_strs _, _, rfl, ?_⟩
      show if (inV (V.str z.1) (st.map V.str)) = true then _ else _
      rw [inV_str]
      refine iteD (fun c => ?_) (fun c => ?_)
      · exact ⟨(by show 2 ≤ sizeLine; decide), fun t ht => fin 1 (by rw [if_pos c]) t ht⟩
      · exact ⟨_, rfl, (by show 2 ≤ sizeLine; decide), fun t ht => fin z.2 (by rw [if_neg c]) t ht⟩
    · rintro H1 ⟨vs, e1, e2, e3⟩
      rw [lx, show s.length = (callS st s).length from (List.length_map _).symm, List.take_length] at e2
      exact ⟨D, _, rfl, .inl ⟨SqL.of e1, fun l hl => k _ _ (same_newK e3 hl) (.tup upd_same (e2.mono (tx_new hl)))⟩⟩
-- looks: slots 0 names, 1 heard
abbrev S_looks : Stmt := (topS 17)
abbrev N_looks : List Str := ["names", "heard"]
theorem sc_looks : FnScope N_looks ["names", "heard"] (defScope S_looks) := ⟨rfl, rfl, rfl, by decide +kernel, rfl, by decide +kernel, by decide +kernel⟩
def sp_looks : Sp := fun vs H Q _ => ∃ (u : Addr) (xs : List Str) (hd : Bool), vs = [.ref u, .bl hd] ∧ H u = some (.lst (xs.map V.str)) ∧ Q (if hd = true then .int xs.length else .ref u) H
theorem ok_looks {f : Addr} {fd : FuncData} (F : Fun K "looks" "looks" S_looks f fd) (T : Txt K mg C) : FnOk P w K mg base CX0 1 f fd ["names", "heard"] sp_looks := by
  refine F.ok sc_looks (fun vs H Q E h => ?_) (fun cdv A outer s H vs Q E hr h => ?_)
  · obtain ⟨u, xs, hd, rfl, _⟩ := h
    rfl
  · obtain ⟨u, xs, hd, rfl, eu, k⟩ := h
    refine ⟨_, (pss_cons (ps_if (pt_val (pv 1)) (pss_one (ps_ret (pe_callB call_len_seq (by rfl) T.b_len PySem.boot_len (pa_cons (pv 0) pa_nil)))) pss_nil)
      (pss_one (ps_ret (pv 0)))), ?_⟩
    refine ⟨_, rfl, hd, rfl, iteB (fun c => ?_) (fun c => ?_)⟩
    · rw [c, if_pos rfl] at k
      refine ⟨_, rfl, u, _, rfl, .inl (SqL.of eu), ?_⟩
      rw [List.length_map]
      exact k
    · rw [c, if_neg Bool.false_ne_true] at k
      exact ⟨_, rfl, k⟩
end
end L2.K83

set_option Elab.async false
set_option linter.all false
set_option maxRecDepth 100000
set_option maxHeartbeats 4000000
/-! The program: one beat, a pair of halls, a book's making. -/
namespace L2.K83
open PySem PySem.Spec PyProof.Rows L2.KB
section
variable {P : Program} {w : World} {K : PySem.W.Frag} {mg : Str → Option Value} {base : Heap} {C : Addr} {f1 f2 f3 f4 f5 fSl : Addr} {fd1 fd2 fd3 fd4 fd5 fdSl : FuncData}
theorem no_sleep (v : V) : List.lookup ("sleep" : Str) [(("rows" : Str), v)] = none := by
  have e : (("sleep" : Str) == ("rows" : Str)) = false := by decide +kernel
  unfold List.lookup
  rw [e]
  rfl
-- beat: slots 0 book, 1 standing, 2 names, 3 behind, 4 name, 5 rest
abbrev S_beat : Stmt := (topS 1)
abbrev N_beat : List Str := ["book", "standing", "names", "behind", "name", "rest"]
theorem sc_beat : FnScope N_beat ["book", "standing"] (defScope S_beat) := ⟨rfl, rfl, rfl, by decide +kernel, rfl, by decide +kernel, by decide +kernel⟩
def sp_beat (C : Addr) : Sp := fun vs H Q _ => ∃ (p : Addr) (v : V) (rows : List Int) (s : St0), vs = [.ref p, v] ∧ BookAt C H p rows ∧ Tp H v (dSt s) ∧ s.length ≤ 40 ∧ s.length ≤ rows.length ∧
  ∀ (H' : Hp) (t u : Addr) (v' : V), Same H H' → H' t = some (.tup [v', .ref u]) → Tp H' v' (dSt (beatS rows s)) → H' u = some (.lst ((ups s).map V.str)) → Q (.ref t) H'
theorem ok_beat {f : Addr} {fd : FuncData} (F : Fun K "beat" "beat" S_beat f fd) (T : Txt K mg C) (mSl : Meth K C "sleep" fSl) (Gsl : FnOk P w K mg base CX0 3 fSl fdSl ["self", "many"] (sp_sleep C)) (bSl : Binds K fdSl ["self", "many"] []) :
    FnOk P w K mg base CX0 4 f fd ["book", "standing"] (sp_beat C) := by
  refine F.ok sc_beat (fun vs H Q E h => ?_) (fun cdv A outer s H vs Q E hr h => ?_)
  · obtain ⟨p, v, rows, s, rfl, _⟩ := h
    rfl
  · obtain ⟨p, v, rows, s, rfl, bk, tv, l1, l2, k⟩ := h
    obtain ⟨ta, xs, rfl, et, tx⟩ := tp_st tv
    have lx : xs.length = s.length := by rw [tx.length, List.length_map]
    refine ⟨_, (pss_cons (ps_setLc (i := 2) (own := [("name", 4), ("rest", 5)]) (g := (gTup K 2 (gCons (gName 4) (gCons (gName 5) gNil)))) rfl sc_beat.nd rfl rfl (sw_true rfl rfl rfl (by decide +kernel)) (pi_tup (pv 1)) (blkOk_by (own := [("name", 4), ("rest", 5)]) (N := N_beat) (sc := defScope S_beat) (by decide +kernel)) (fun _ _ _ _ _ => (by exact (pg_tupK (K := K) rfl rfl (pgs_cons (pg_name (i := 4) sc_beat.nd rfl (Or.inl rfl)) (pgs_cons (pg_name (i := 5) sc_beat.nd rfl (Or.inl rfl)) pgs_nil))))) (fun _ _ _ _ _ => (pts_one (pt_cmpR op_eq (pv 5) pe_int (nomark _)))) (fun _ _ _ _ _ => (pv 4)))
      (pss_cons (ps_set (i := 3) sc_beat.nd rfl (Or.inl rfl) (pe_lst pa_nil))
      (pss_cons (ps_for PassesOwn.never rfl (pi_tup (pv 1)) (pg_tup rfl (pgs_cons (pg_name (i := 4) sc_beat.nd rfl (Or.inl rfl)) (pgs_cons (pg_name (i := 5) sc_beat.nd rfl (Or.inl rfl)) pgs_nil)))
        (pss_one (ps_if (pt_cmpR op_eq (pv 5) pe_int (nomark _)) (pss_one (ps_expr (pe_bm PySem.F.plainAttrs_list PySem.F.slot_list_append PySem.F.type_list_append mt_append (pv 3) (pa_cons (pe_tup (pa_cons (pv 4) (pa_cons (pe_meth (pv 0) T.clB mSl Gsl (hr.mono (by decide)) bSl .nil pass0 (pa_cons (pe_callB call_len_seq (by rfl) T.b_len PySem.boot_len (pa_cons (pv 2) pa_nil)) pa_nil)) pa_nil))) pa_nil)))) (pss_one (ps_expr (pe_bm PySem.F.plainAttrs_list PySem.F.slot_list_append PySem.F.type_list_append mt_append (pv 3) (pa_cons (pe_tup (pa_cons (pv 4) (pa_cons (pe_op op_sub (pv 5) pe_int) pa_nil))) pa_nil)))))))
      (pss_one (ps_ret (pe_tup (pa_cons (pe_callTy call_tuple_of (by rfl) T.b_tuple (by decide +kernel) (pa_cons (pv 3) pa_nil)) (pa_cons (pv 2) pa_nil)))))))), ?_⟩
    refine ⟨_, rfl, ta, rfl, ⟨_, SqT.of et⟩, fun D hD => lc_tup (K := K) (a := ta) (xs := xs) (fun i H' => ∃ ys : List Str, H' D = some (.lst (ys.map V.str)) ∧ ys = ((s.take i).filter fun p => decide (p.2 = 1)).map (·.1) ∧ Same H H') ?_ ?_ ?_ ?_⟩
    · exact ⟨[], upd_same, by simp, same_newK (fun _ _ h => h) hD⟩
    · rintro i H' _ ⟨vs, e1, e2, e3⟩
      exact SqT.of (e3 _ _ et)
    · rintro i x H1 hi ⟨ys, e1, e2, e3⟩
      obtain ⟨z, hz, tz⟩ := tpa_item tx hi
      obtain ⟨za, rfl, ez⟩ := tp_sl tz
      have hil : i < s.length := (List.getElem?_eq_some_iff.mp hz).1
      have hlen : ys.length ≤ 40 := by
        rw [e2, List.length_map]
        refine Nat.le_trans (List.length_filter_le _ _) ?_
        rw [List.length_take]; omega
      refine ⟨za, _, rfl, SqT.of (e3 _ _ ez), rfl, _, _, rfl, _, _, rfl, rfl, rfl, ?_⟩
      refine ⟨_, rfl, rfl, _, rfl, ?_⟩
      show if decide (V.int z.2 = V.int 1) = true then _ else _
      rw [show decide (V.int z.2 = V.int 1) = decide (z.2 = 1) from decide_eq_decide.mpr ⟨fun h => V.int.inj h, fun h => by rw [h]⟩]
      refine iteB (fun c => ?_) (fun c => ?_)
      · refine ⟨_, rfl, _, e1, ?_, ys ++ [z.1], ?_, ?_, same_upd e3 hD⟩
        · rw [List.length_map]; exact small1000 (by omega)
        · rw [upd_same, List.map_append]; rfl
        · rw [take_succ hz, List.filter_append, List.map_append, ← e2, List.filter_cons_of_pos (p := fun z : Str × Int => decide (z.2 = 1)) c]; rfl
      · refine ⟨ys, e1, ?_, e3⟩
        rw [take_succ hz, List.filter_append, List.map_append, ← e2, List.filter_cons_of_neg (p := fun z : Str × Int => decide (z.2 = 1)) (by rw [c]; decide)]; simp
    · rintro H1 ⟨ys, e1, e2, e3⟩
      rw [lx, List.take_length] at e2
      have e2 : ys = ups s := e2
      subst e2
      refine ⟨(by show 0 ≤ sizeLine; decide), fun b hb => ?_⟩
      have s1 := same_newK e3 (o := .lst []) hb
      have b0 := e3.free hb
      have nDb : D ≠ b := ne_of_none e1 hb
      have e1' : (upd H1 b (.lst [])) D = some (.lst ((ups s).map V.str)) := by rw [upd_ne nDb]; exact e1
      refine ⟨_, rfl, ta, rfl, ⟨_, SqT.of (s1 _ _ et)⟩, for_tup (K := K) (a := ta) (xs := xs) (fun i σ H' => ∃ (vs : List V) (v4 v5 : Option V), σ = [some (.ref p), some (.ref ta), some (.ref D), some (.ref b), v4, v5] ∧ H' b = some (.lst vs) ∧ TpA H' vs (((beatS rows s).take i).map dSl) ∧ H' D = some (.lst ((ups s).map V.str)) ∧ Same H H') ?_ ?_ ?_ ?_⟩
      · exact ⟨[], none, none, rfl, upd_same, .nil, e1', s1⟩
      · rintro i σ H' _ ⟨vs, v4, v5, rfl, _, _, _, s5⟩
        exact SqT.of (s5 _ _ et)
      · rintro i x σ H' hi ⟨vs, v4, v5, rfl, g1, g2, g3, g4⟩
        obtain ⟨z, hz, tz⟩ := tpa_item tx hi
        obtain ⟨za, rfl, ez⟩ := tp_sl tz
        have hil : i < s.length := (List.getElem?_eq_some_iff.mp hz).1
        have el := g2.length
        rw [List.length_map, List.length_take, show (beatS rows s).length = s.length from List.length_map _, Nat.min_eq_left (Nat.le_of_lt hil)] at el
        have hz2 : (beatS rows s)[i]? = some (z.1, if z.2 = 1 then rows.getD ((ups s).length - 1) 0 else z.2 - 1) := get_map (f := fun p : Str × Int => (p.1, if p.2 = 1 then rows.getD ((ups s).length - 1) 0 else p.2 - 1)) hz
        have fin : ∀ r : Int, r = (if z.2 = 1 then rows.getD ((ups s).length - 1) 0 else z.2 - 1) → ∀ t, H' t = none → TpA (upd (upd H' t (.tup [.str z.1, .int r])) b (.lst (vs ++ [.ref t]))) (vs ++ [.ref t]) (((beatS rows s).take (i + 1)).map dSl) ∧ (upd (upd H' t (.tup [.str z.1, .int r])) b (.lst (vs ++ [.ref t]))) D = some (.lst ((ups s).map V.str)) ∧ Same H (upd (upd H' t (.tup [.str z.1, .int r])) b (.lst (vs ++ [.ref t]))) ∧ (upd H' t (.tup [.str z.1, .int r])) b = some (.lst vs) := fun r er t ht => by
          have nbt := ne_of_none g1 ht
          have nDt := ne_of_none g3 ht
          have hb' : (upd H' t (.tup [.str z.1, .int r])) b = some (.lst vs) := by rw [upd_ne nbt]; exact g1
          refine ⟨?_, ?_, same_upd (same_newK g4 ht) b0, hb'⟩
          · rw [take_succ (x := (z.1, r)) (by rw [er]; exact hz2), List.map_append]
            refine TpA.snoc (g2.mono ((tx_new ht).trans (tx_updL hb'))) (tp_sl_of (p := (z.1, r)) ?_)
            show (upd _ b _) t = _
            rw [upd_ne nbt.symm]; exact upd_same
          · rw [upd_ne nDb, upd_ne nDt]; exact g3
        refine ⟨za, _, rfl, SqT.of (g4 _ _ ez), rfl, _, _, rfl, _, _, rfl, rfl, ?_⟩
        refine ⟨_, rfl, rfl, _, rfl, ?_⟩
        show if decide (V.int z.2 = V.int 1) = true then _ else _
        rw [show decide (V.int z.2 = V.int 1) = decide (z.2 = 1) from decide_eq_decide.mpr ⟨fun h => V.int.inj h, fun h => by rw [h]⟩]
        refine iteD (fun c => ?_) (fun c => ?_)
        · have lU := ups_len s
          have pU := up_pos (List.mem_of_getElem? hz) c
          refine ⟨_, rfl, .inl ⟨rfl, _, SqL.of g1⟩, _, rfl, _, rfl, p, ?_⟩
          obtain ⟨dx, tr, b1, b2⟩ := bk.same g4
          refine ⟨dx, _, rfl, b1, no_sleep _, _, rfl, D, _, rfl, .inl (SqL.of g3), p, rows, ((ups s).length : Int), (by rw [List.length_map]; rfl), ⟨dx, tr, b1, b2⟩, by omega, by omega, ?_⟩
          rw [show (((ups s).length : Int) - 1).toNat = (ups s).length - 1 by omega]
          refine ⟨(by show 2 ≤ sizeLine; decide), fun t ht => ?_⟩
          obtain ⟨q1, q2, q3, q4⟩ := fin _ (by rw [if_pos c]) t ht
          exact ⟨b, _, _, rfl, rfl, q4, small1000 (by omega), vs ++ [.ref t], _, _, rfl, upd_same, q1, q2, q3⟩
        · refine ⟨_, rfl, .inl ⟨rfl, _, SqL.of g1⟩, _, rfl, _, rfl, _, _, rfl, rfl, (by show 2 ≤ sizeLine; decide), fun t ht => ?_⟩
          obtain ⟨q1, q2, q3, q4⟩ := fin (z.2 - 1) (by rw [if_neg c]) t ht
          exact ⟨b, _, _, rfl, rfl, q4, small1000 (by omega), vs ++ [.ref t], _, _, rfl, upd_same, q1, q2, q3⟩
      · rintro σ H' ⟨vs, v4, v5, rfl, g1, g2, g3, g4⟩
        rw [lx, show s.length = (beatS rows s).length from (List.length_map _).symm, List.take_length] at g2
        refine ⟨_, rfl, b, _, rfl, .inl ⟨SqL.of g1, fun t1 ht1 => ⟨_, rfl, (by show 2 ≤ sizeLine; decide), fun t2 ht2 => ?_⟩⟩⟩
        refine k _ t2 D (.ref t1) (same_newK (same_newK g4 ht1) ht2) upd_same (.tup (by rw [upd_ne (ne_of_none upd_same ht2)]; exact upd_same) (g2.mono ((tx_new ht1).trans (tx_new ht2)))) ?_
        have q : (upd H' t1 (.tup vs)) D = some (.lst ((ups s).map V.str)) := by rw [upd_ne (ne_of_none g3 ht1)]; exact g3
        rw [upd_ne (ne_of_none q ht2)]; exact q
-- called: slots 0 book, 1 standing, 2 stroke
abbrev S_called : Stmt := (topS 3)
abbrev N_called : List Str := ["book", "standing", "stroke"]
theorem sc_called : FnScope N_called ["book", "standing", "stroke"] (defScope S_called) := ⟨rfl, rfl, rfl, by decide +kernel, rfl, by decide +kernel, by decide +kernel⟩
def sp_called (C : Addr) : Sp := fun vs H Q _ => ∃ (p kk : Addr) (v : V) (rows : List Int) (s : St0) (st : List Str), vs = [.ref p, v, .ref kk] ∧ BookAt C H p rows ∧ Tp H v (dSt s) ∧ H kk = some (.lst (st.map V.str)) ∧ s.length ≤ 40 ∧ s.length ≤ rows.length ∧
  ∀ (H' : Hp) (t u : Addr) (v' : V), Same H H' → H' t = some (.tup [v', .ref u]) → Tp H' v' (dSt (stepS rows st s)) → H' u = some (.lst ((upS st s).map V.str)) → Q (.ref t) H'
theorem ok_called {f : Addr} {fd : FuncData} (F : Fun K "called" "called" S_called f fd) (T : Txt K mg C) (Dbeat : Fd P w K mg base CX0 4 "beat" f1 fd1 ["book", "standing"] (sp_beat C)) (Dwith_calls : Fd P w K mg base CX0 1 "with_calls" f2 fd2 ["standing", "stroke"] sp_with) :
    FnOk P w K mg base CX0 5 f fd ["book", "standing", "stroke"] (sp_called C) := by
  refine F.ok sc_called (fun vs H Q E h => ?_) (fun cdv A outer s H vs Q E hr h => ?_)
  · obtain ⟨p, kk, v, rows, s, st, rfl, _⟩ := h
    rfl
  · obtain ⟨p, kk, v, rows, s, st, rfl, bk, tv, ek, l1, l2, k⟩ := h
    refine ⟨_, (pss_one (ps_ret (pe_call Dbeat.ok (hr.mono (by decide)) rfl Dbeat.m Dbeat.kp Dbeat.b .nil pass0 (pa_cons (pv 0) (pa_cons (pe_call Dwith_calls.ok (hr.mono (by decide)) rfl Dwith_calls.m Dwith_calls.kp Dwith_calls.b .nil pass0 (pa_cons (pv 1) (pa_cons (pv 2) pa_nil))) pa_nil))))), ?_⟩
    have lc : (callS st s).length = s.length := List.length_map _
    exact ⟨_, rfl, _, rfl, _, rfl, v, kk, s, st, rfl, tv, l1, ek, fun H1 v1 s1 t1 => ⟨p, v1, rows, callS st s, rfl, bk.same s1, t1, by omega, by omega, fun H' t u v' s2 et tv' eu => k _ t u v' (s1.trans s2) et tv' eu⟩⟩
-- both_behind: slots 0 one, 1 other, 2 pair, 3 stroke, 4 heard, 5 here, 6 up, 7 there, 8 others
abbrev S_both_behind : Stmt := (topS 18)
abbrev N_both_behind : List Str := ["one", "other", "pair", "stroke", "heard", "here", "up", "there", "others"]
theorem sc_both_behind : FnScope N_both_behind ["one", "other", "pair", "stroke", "heard"] (defScope S_both_behind) := ⟨rfl, rfl, rfl, by decide +kernel, rfl, by decide +kernel, by decide +kernel⟩
def sp_both (C : Addr) : Sp := fun vs H Q _ => ∃ (p1 p2 kk : Addr) (v : V) (r1 r2 : List Int) (p : St0 × St0) (st nm : List Str) (hd : Bool), vs = [.ref p1, .ref p2, v, .ref kk, .bl hd] ∧ BookAt C H p1 r1 ∧ BookAt C H p2 r2 ∧ Tp H v (dPr p) ∧ H kk = some (.lst (st.map V.str)) ∧ OkR nm r1 ∧ OkR nm r2 ∧ OkP nm p ∧
  (nxP r1 r2 hd p st = none → ∀ H', Same H H' → Q .non H') ∧ (∀ q, nxP r1 r2 hd p st = some q → ∀ (H' : Hp) (v' : V), Same H H' → Tp H' v' (dPr q) → Q v' H')
theorem OkR.nm40 {nm : List Str} {r : List Int} (R : OkR nm r) : nm.length ≤ 40 := Nat.le_trans R.len R.few
theorem ok_both {f : Addr} {fd : FuncData} (F : Fun K "both_behind" "both_behind" S_both_behind f fd) (T : Txt K mg C) (Dcalled : Fd P w K mg base CX0 5 "called" f1 fd1 ["book", "standing", "stroke"] (sp_called C)) (Dlooks : Fd P w K mg base CX0 1 "looks" f2 fd2 ["names", "heard"] sp_looks) :
    FnOk P w K mg base CX0 6 f fd ["one", "other", "pair", "stroke", "heard"] (sp_both C) := by
  refine F.ok sc_both_behind (fun vs H Q E h => ?_) (fun cdv A outer s H vs Q E hr h => ?_)
  · obtain ⟨p1, p2, kk, v, r1, r2, p, st, nm, hd, rfl, _⟩ := h
    rfl
  · obtain ⟨p1, p2, kk, v, r1, r2, p, st, nm, hd, rfl, bk1, bk2, tv, ek, R1, R2, ok, kN, kS⟩ := h
    obtain ⟨pa, v1, v2, rfl, ep, t1, t2⟩ := tp_pr tv
    have ln := R1.nm40
    have la := ok.a.length
    have lb := ok.b.length
    have lr1 := R1.len
    have lr2 := R2.len
    refine ⟨_, (pss_cons (ps_asg (pe_call Dcalled.ok (hr.mono (by decide)) rfl Dcalled.m Dcalled.kp Dcalled.b .nil pass0 (pa_cons (pv 0) (pa_cons (pe_ix ix_tup (pv 2) pe_int (fun _ _ => rfl)) (pa_cons (pv 3) pa_nil)))) (pg_tup rfl (pgs_cons (pg_name (i := 5) sc_both_behind.nd rfl (Or.inl rfl)) (pgs_cons (pg_name (i := 6) sc_both_behind.nd rfl (Or.inl rfl)) pgs_nil))))
      (pss_cons (ps_asg (pe_call Dcalled.ok (hr.mono (by decide)) rfl Dcalled.m Dcalled.kp Dcalled.b .nil pass0 (pa_cons (pv 1) (pa_cons (pe_ix ix_tup (pv 2) pe_int (fun _ _ => rfl)) (pa_cons (pv 3) pa_nil)))) (pg_tup rfl (pgs_cons (pg_name (i := 7) sc_both_behind.nd rfl (Or.inl rfl)) (pgs_cons (pg_name (i := 8) sc_both_behind.nd rfl (Or.inl rfl)) pgs_nil))))
      (pss_cons (ps_if (pt_cmpR (op_neE hr.units) (pe_call Dlooks.ok (hr.mono (by decide)) rfl Dlooks.m Dlooks.kp Dlooks.b .nil pass0 (pa_cons (pv 6) (pa_cons (pv 4) pa_nil))) (pe_call Dlooks.ok (hr.mono (by decide)) rfl Dlooks.m Dlooks.kp Dlooks.b .nil pass0 (pa_cons (pv 8) (pa_cons (pv 4) pa_nil))) (nomark _)) (pss_one (ps_ret pe_non)) pss_nil)
      (pss_one (ps_ret (pe_tup (pa_cons (pv 5) (pa_cons (pv 7) pa_nil)))))))), ?_⟩
    refine ⟨_, rfl, _, rfl, pa, _, 0, v1, rfl, rfl, SqT.of ep, rfl, _, rfl, p1, kk, v1, r1, p.1, st, rfl, bk1, t1, ek, by omega, by omega, fun H1 ta ua w1 s1 et1 tw1 eu1 => ⟨ta, _, rfl, SqT.of et1, rfl, _, _, rfl, _, _, rfl, rfl, ?_⟩⟩
    refine ⟨_, rfl, _, rfl, pa, _, 1, v2, rfl, rfl, SqT.of (s1 _ _ ep), rfl, _, rfl, p2, kk, v2, r2, p.2, st, rfl, bk2.same s1, t2.mono (tx_same s1), s1 _ _ ek, by omega, by omega, fun H2 tb ub w2 s2 et2 tw2 eu2 => ⟨tb, _, rfl, SqT.of et2, rfl, _, _, rfl, _, _, rfl, rfl, ?_⟩⟩
    have eu1' := s2 _ _ eu1
    have s12 := s1.trans s2
    refine ⟨_, rfl, _, rfl, ua, upS st p.1, hd, rfl, eu1', _, rfl, _, rfl, ub, upS st p.2, hd, rfl, eu2, ?_⟩
    have last : ∀ c : Bool, c = tellD hd st p → if c = true then tRet (tC .non) { nx := tRet (tTup (tCons (tVar 5) (tCons (tVar 7) tNil))) { nx := fun x H' => Q V.non H', rt := Q }, rt := Q } [some (.ref p1), some (.ref p2), some (.ref pa), some (.ref kk), some (.bl hd), some w1, some (.ref ua), some w2, some (.ref ub)] H2 else tNext { nx := tRet (tTup (tCons (tVar 5) (tCons (tVar 7) tNil))) { nx := fun x H' => Q V.non H', rt := Q }, rt := Q } [some (.ref p1), some (.ref p2), some (.ref pa), some (.ref kk), some (.bl hd), some w1, some (.ref ua), some w2, some (.ref ub)] H2 := by
      intro c hc
      refine iteB (fun h => ?_) (fun h => ?_)
      · exact kN (by unfold nxP; rw [← hc, if_pos h]) _ s12
      · refine ⟨_, rfl, _, rfl, (by show 2 ≤ sizeLine; decide), fun t ht => kS (stpP r1 r2 st p) (by unfold nxP; rw [← hc, if_neg (by rw [h]; decide)]) _ _ (same_newK s12 ht) ?_⟩
        exact tp_pr_of upd_same (tw1.mono ((tx_same s2).trans (tx_new ht))) (tw2.mono (tx_new ht))
    cases hd with
    | true => exact ⟨Int, inferInstance, PyData.int, ((upS st p.1).length : Int), ((upS st p.2).length : Int), encI, .int _, .int _, _, rfl, last _ (by unfold tellD; rw [if_pos rfl, if_pos rfl]; exact congrArg (!·) (decide_eq_decide.mpr ⟨fun h => by omega, fun h => by omega⟩))⟩
    | false => exact ⟨List Str, inferInstance, dStrs, upS st p.1, upS st p.2, encS, dp_strs eu1', dp_strs eu2, _, rfl, last _ (by unfold tellD; rw [if_pos rfl, if_neg (by decide)])⟩
/-- lengths that a book takes -/
def Lens0 (xs : List Int) : Prop := 1 ≤ xs.length ∧ xs.length ≤ 40 ∧ ∀ x ∈ xs, 1 ≤ x ∧ x ≤ 1000
-- Book.__init__: slots 0 self, 1 lengths, 2 one
abbrev S_Binit : Stmt := (inClass (topS 25) 0)
abbrev N_Binit : List Str := ["self", "lengths", "one"]
theorem sc_Binit : FnScope N_Binit ["self", "lengths"] (defScope S_Binit) := ⟨rfl, rfl, rfl, by decide +kernel, rfl, by decide +kernel, by decide +kernel⟩
def sp_init (C : Addr) (K : PySem.W.Frag) : Sp := fun vs H Q _ => ∃ (x dx a : Addr) (rows : List Int), vs = [.ref x, .ref a] ∧ H x = some (.ins C dx []) ∧ H a = some (.lst (rows.map V.int)) ∧ Lens0 rows ∧
  ∀ (H' : Hp), (∀ b o, H b = some o → b ≠ x → H' b = some o) → BookAt C H' x rows → Q .non H'
theorem ok_init {f : Addr} {fd : FuncData} (F : Fun K "__init__" "Book.__init__" S_Binit f fd) (T : Txt K mg C) (Dis_length : Fd P w K mg base CX0 3 "is_length" f1 fd1 ["thing"] sp_length) : FnOk P w K mg base CX0 4 f fd ["self", "lengths"] (sp_init C K) := by
  refine F.ok sc_Binit (fun vs H Q E h => ?_) (fun cdv A outer s H vs Q E hr h => ?_)
  · obtain ⟨x, dx, a, rows, rfl, _⟩ := h
    rfl
  · obtain ⟨x, dx, a, rows, rfl, ex, ea, L, k⟩ := h
    refine ⟨_, (pss_cons (ps_if (PW.pt (pw_or (pt_not (pt_val (pe_callB call_isi (by rfl) T.b_isinstance (by decide +kernel) (pa_cons (pv 1) (pa_cons (pe_bltn (v := .ty "list") (by rfl) T.b_list (by decide +kernel) rfl) pa_nil))))) (pw_or1 (pt_not (pt_chain op_le op_le pe_int (pe_callB call_len_seq (by rfl) T.b_len PySem.boot_len (pa_cons (pv 1) pa_nil)) (pe_glob (v := .int 40) rfl T.MS.choose_spec ⟨_, rfl⟩)))))) (pss_one ps_never) pss_nil)
      (pss_cons (ps_if (pt_not (pt_val (pe_callB (cr_all rfl) (by rfl) T.b_all (by decide +kernel) (pa_cons (pe_lc (own := [("one", 2)]) (g := (gName 2)) (tt := tYes) rfl sc_Binit.nd (pi_list (pv 1)) (blkOk_by (own := [("one", 2)]) (N := N_Binit) (sc := defScope S_Binit) (by decide +kernel)) (fun _ _ _ _ _ => (pg_name (i := 2) sc_Binit.nd rfl (Or.inl rfl))) (fun _ _ _ _ _ => pts_nil) (fun _ _ _ _ _ => (pe_call Dis_length.ok (hr.mono (by decide)) rfl Dis_length.m Dis_length.kp Dis_length.b .nil pass0 (pa_cons (pv 2) pa_nil)))) pa_nil)))) (pss_one ps_never) pss_nil)
      (pss_one (ps_fld (pv 0) (pe_callTy call_tuple_of (by rfl) T.b_tuple (by decide +kernel) (pa_cons (pv 1) pa_nil)) rfl)))), ?_⟩
    refine ⟨_, rfl, .ref a, .ty "list", .type "list", .type "list", true, rfl, .ty _, .base (.lst ea), kit_ty (by decide +kernel), true, rfl, iteF ?_⟩
    refine ⟨_, rfl, a, _, rfl, .inl (SqL.of ea), _, _, rfl, rfl, _, rfl, iteD (fun c1 => ?_) (fun c1 => ?_)⟩
    case refine_2 => exact absurd L.1 (by rw [List.length_map] at c1; omega)
    refine ⟨_, _, rfl, rfl, _, rfl, iteDN (fun c2 => ?_) (fun c2 => ?_)⟩
    · exact absurd L.2.1 (by rw [List.length_map] at c2; omega)
    refine ⟨_, rfl, a, rfl, ⟨_, SqL.of ea⟩, fun D hD => lc_list (K := K) (a := a) (xs := rows.map V.int) (fun i H' => H' D = some (.lst ((List.replicate i true).map V.bl)) ∧ Same H H') ?_ ?_ ?_ ?_⟩
    · exact ⟨upd_same, same_newK (fun _ _ h => h) hD⟩
    · rintro i H' _ ⟨e1, e2⟩
      exact SqL.of (e2 _ _ ea)
    · rintro i y H' hi ⟨e1, e2⟩
      obtain ⟨z, hz, rfl⟩ := map_get hi
      have hil : i < rows.length := (List.getElem?_eq_some_iff.mp hz).1
      have hL := L.2.1
      have hb := L.2.2 z (List.mem_of_getElem? hz)
      refine ⟨rfl, _, rfl, z, rfl, hb.1, hb.2, _, e1, ?_, ?_, same_upd e2 hD⟩
      · rw [List.length_map, List.length_replicate]; exact small1000 (by omega)
      · rw [upd_same, List.replicate_succ', List.map_append]; rfl
    · rintro H' ⟨e1, e2⟩
      refine ⟨D, _, rfl, SqL.of e1, true, ?_, iteF ?_⟩
      · exact congrArg V.bl (by simp)
      · have nxD := ne_of_none ex hD
        refine ⟨_, rfl, a, _, rfl, .inl ⟨SqL.of (e2 _ _ ea), fun t ht => ?_⟩⟩
        have ex1 := e2 _ _ ex
        have nxt := ne_of_none ex1 ht
        refine ⟨_, rfl, x, C, dx, [], rfl, (by rw [upd_ne nxt]; exact ex1), T.clB, T.nR, (by show 0 < 1000; decide), k _ (fun b o hb nb => ?_) ⟨dx, t, upd_same, ?_⟩⟩
        · rw [upd_ne nb, upd_ne (ne_of_none (e2 _ _ hb) ht)]; exact e2 _ _ hb
        · rw [upd_ne nxt.symm]; exact upd_same
end
end L2.K83

set_option Elab.async false
set_option linter.all false
set_option maxRecDepth 100000
set_option maxHeartbeats 4000000
/-! The program: the row that led to a pair; too many. -/
namespace L2.K83
open PySem PySem.Spec PyProof.Rows L2.KB
abbrev En := KM.Ent (St0 × St0) (List Str)
/-- what came says of the pairs met: whence -/
def CmE (H : Hp) (es : List En) (e : En) (v : V) : Prop := match e.par with
  | none => v = .non
  | some (k, j) => ∃ (tc : Addr) (vk : V) (f : En), v = .ref tc ∧ H tc = some (.tup [vk, .int (j : Int)]) ∧ es[k]? = some f ∧ Tp H vk (dPr f.p)
structure CameAt (P : Program) (w : World) (H : Hp) (d : Addr) (es : List En) : Prop where
  ex : ∃ kvs, DN P w H d kvs ∧ kvs.map (·.1) = es.map (fun e => kPr e.p) ∧ ∀ (i : Nat) (e : En) (kv : NestedKey × V), es[i]? = some e → kvs[i]? = some kv → CmE H es e kv.2
theorem CmE.mono {H H' : Hp} (t : TX H H') {es : List En} {e : En} {v : V} (h : CmE H es e v) : CmE H' es e v := by
  unfold CmE at h ⊢
  cases q : e.par with
  | none => rw [q] at h; exact h
  | some kj =>
    rw [q] at h
    obtain ⟨tc, vk, f, h1, h2, h3, h4⟩ := h
    exact ⟨tc, vk, f, h1, t _ _ h2, h3, h4.mono t⟩
theorem CmE.grow {H : Hp} {es : List En} {e e' : En} {v : V} (h : CmE H es e v) : CmE H (es ++ [e']) e v := by
  unfold CmE at h ⊢
  cases q : e.par with
  | none => rw [q] at h; exact h
  | some kj =>
    rw [q] at h
    obtain ⟨tc, vk, f, h1, h2, h3, h4⟩ := h
    exact ⟨tc, vk, f, h1, h2, KM.get_snoc_of h3, h4⟩
theorem CameAt.same {P : Program} {w : World} {H H' : Hp} {d : Addr} {es : List En} (h : CameAt P w H d es) (s : Same H H') : CameAt P w H' d es := by
  obtain ⟨kvs, h1, h2, h3⟩ := h
  exact ⟨kvs, h1.same s, h2, fun i e kv he hk => (h3 i e kv he hk).mono (tx_same s)⟩
/-- the value at a key, keys apart -/
theorem valV_at {κ : Type} [DecidableEq κ] : ∀ {kvs : List (κ × V)}, (kvs.map (·.1)).Nodup → ∀ {i : Nat} {kv : κ × V}, kvs[i]? = some kv → valV kvs kv.1 = some kv.2
  | [], _, i, kv, h => by simp at h
  | p :: kvs, nd, 0, kv, h => by
    have : p = kv := Option.some.inj h
    subst this
    exact valV_pos rfl
  | p :: kvs, nd, i + 1, kv, h => by
    have nd' := List.nodup_cons.mp (show (p.1 :: kvs.map (·.1)).Nodup from nd)
    have hm : kv ∈ kvs := List.mem_of_getElem? (show kvs[i]? = some kv from h)
    rw [valV_neg (fun e => nd'.1 (by rw [e]; exact List.mem_map_of_mem hm))]
    exact valV_at nd'.2 h
theorem CameAt.get {P : Program} {w : World} {H : Hp} {d : Addr} {es : List En} (h : CameAt P w H d es) (nd : (es.map (·.p)).Nodup) : ∃ kvs, DN P w H d kvs ∧ ∀ (i : Nat) (e : En), es[i]? = some e → ∃ v, valV kvs (kPr e.p) = some v ∧ CmE H es e v := by
  obtain ⟨kvs, h1, h2, h3⟩ := h
  refine ⟨kvs, h1, fun i e he => ?_⟩
  have ndk : (kvs.map (·.1)).Nodup := by
    rw [h2, show es.map (fun e => kPr e.p) = (es.map (·.p)).map kPr by rw [List.map_map]; rfl]
    exact List.pairwise_map.mpr (nd.imp fun h e => h (kPr_inj e))
  have hk : (kvs.map (·.1))[i]? = some (kPr e.p) := by rw [h2]; exact get_map (f := fun e : En => kPr e.p) he
  obtain ⟨kv, hkv, ek⟩ := map_get hk
  refine ⟨kv.2, ?_, h3 i e kv he hkv⟩
  rw [ek]
  exact valV_at ndk hkv
theorem row_short {nx : St0 × St0 → List Str → Option (St0 × St0)} {ss : List (List Str)} {a : St0 × St0} {es : List En} (G : KM.Good nx ss a es) : ∀ (i : Nat) (e : En), es[i]? = some e → e.row.length ≤ i := by
  intro i
  induction i using Nat.strongRecOn with
  | ind i ih =>
    intro e he
    rcases G.par i e he with ⟨rfl, _, hr⟩ | ⟨k, j, f, s, _, hk, hf, hs, hn, hr⟩
    · rw [hr]; exact Nat.le_refl _
    · have := ih k hk f hf
      rw [hr, List.length_append]
      show f.row.length + 1 ≤ i
      omega
theorem SS.rev {H : Hp} {p : Addr} {l : List (Addr × List Str)} {q : Addr} (h : SS H q l) (hp : H p = none) : SS (L2.upd H p (.lst ((l.map fun q => V.ref q.1).reverse))) p l.reverse := by
  refine ⟨by rw [upd_same, List.map_reverse], fun x hx => ?_⟩
  have q := h.2 x (List.mem_reverse.mp hx)
  rw [upd_ne (ne_of_none q hp)]; exact q
section
variable {P : Program} {w : World} {K : PySem.W.Frag} {mg : Str → Option Value} {base : Heap} {C : Addr} {f1 f2 f3 f4 f5 : Addr} {fd1 fd2 fd3 fd4 fd5 : FuncData}
-- row_to: slots 0 came, 1 strokes, 2 pair, 3 found, 4 at
abbrev S_row_to : Stmt := (topS 19)
abbrev N_row_to : List Str := ["came", "strokes", "pair", "found", "at"]
theorem sc_row_to : FnScope N_row_to ["came", "strokes", "pair"] (defScope S_row_to) := ⟨rfl, rfl, rfl, by decide +kernel, rfl, by decide +kernel, by decide +kernel⟩
def sp_row (P : Program) (w : World) : Sp := fun vs H Q _ => ∃ (d sa : Addr) (v : V) (es : List En) (l : List (Addr × List Str)) (nx : St0 × St0 → List Str → Option (St0 × St0)) (a : St0 × St0) (i : Nat) (e : En), vs = [.ref d, .ref sa, v] ∧ CameAt P w H d es ∧ SS H sa l ∧ KM.Good nx (l.map (·.2)) a es ∧ es.length ≤ 300 ∧ es[i]? = some e ∧ Tp H v (dPr e.p) ∧
  ∀ (H' : Hp) (R : Addr) (lr : List (Addr × List Str)), Same H H' → SS H' R lr → lr.map (·.2) = e.row → Q (.ref R) H'
theorem ok_row {f : Addr} {fd : FuncData} (F : Fun K "row_to" "row_to" S_row_to f fd) (T : Txt K mg C) : FnOk P w K mg base CX0 1 f fd ["came", "strokes", "pair"] (sp_row P w) := by
  refine F.ok sc_row_to (fun vs H Q E h => ?_) (fun cdv A outer s H vs Q E hr h => ?_)
  · obtain ⟨d, sa, v, es, l, nx, a, i, e, rfl, _⟩ := h
    rfl
  · obtain ⟨d, sa, v, es, l, nx, a, i, e, rfl, cm, S, G, hes, he, tv, k⟩ := h
    refine ⟨_, (pss_cons (ps_set (i := 3) sc_row_to.nd rfl (Or.inl rfl) (pe_lst pa_nil))
      (pss_cons (ps_while PassesOwn.never (pt_cmpR op_notN (pe_ix (ix_N hr.units) (pv 0) (pv 2) (fun _ _ => rfl)) pe_non (nomark _))
        (pss_cons (ps_asg (pe_ix (ix_N hr.units) (pv 0) (pv 2) (fun _ _ => rfl)) (pg_tup rfl (pgs_cons (pg_name (i := 2) sc_row_to.nd rfl (Or.inl rfl)) (pgs_cons (pg_name (i := 4) sc_row_to.nd rfl (Or.inl rfl)) pgs_nil))))
        (pss_one (ps_expr (pe_bm PySem.F.plainAttrs_list PySem.F.slot_list_append PySem.F.type_list_append mt_append (pv 3) (pa_cons (pe_callTy call_list_of (by rfl) T.b_list (by decide +kernel) (pa_cons (pe_ix ix_list (pv 1) (pv 4) (fun _ _ => rfl)) pa_nil)) pa_nil))))))
      (pss_one (ps_ret (pe_revL (pv 3)))))), ?_⟩
    refine ⟨(by show 0 ≤ sizeLine; decide), fun r hr0 => ?_⟩
    have s1 := same_newK (fun _ _ h => h : Same H H) (o := .lst []) hr0
    refine ⟨fun m σ H' => ∃ (g : En) (v' : V) (v4 : Option V) (fl : List (Addr × List Str)), es[m]? = some g ∧ σ = [some (.ref d), some (.ref sa), some v', some (.ref r), v4] ∧ Same H H' ∧ Tp H' v' (dPr g.p) ∧ SS H' r fl ∧ e.row = g.row ++ (fl.map (·.2)).reverse ∧ m ≤ i, ⟨i, e, v, none, [], he, rfl, s1, tv.mono (tx_same s1), ⟨upd_same, (by intro x hx; cases hx)⟩, by simp, Nat.le_refl _⟩, ?_⟩
    rintro m σ H' ⟨g, v', v4, fl, hg, rfl, s2, tv', Sf, er, hmi⟩
    obtain ⟨kvs, Dn, hget⟩ := (cm.same s2).get G.nd
    obtain ⟨vv, hvv, ce⟩ := hget m g hg
    obtain ⟨va, v1, v2, rfl, _⟩ := tp_pr tv'
    have hkey : Tp H' (.ref va) (kPr g.p).data := by rw [data_pr]; exact tv'
    have hdep : (kPr g.p).depth ≤ 7 := Nat.le_trans (depth_pr _) (by decide)
    have lrow := row_short G i e he
    have hil := KM.lt_of_get he
    refine ⟨_, rfl, _, rfl, va, d, kPr g.p, kvs, vv, rfl, rfl, Dn, hkey, hdep, hvv, rfl, _, rfl, ?_⟩
    unfold CmE at ce
    rcases G.par m g hg with ⟨hm0, hpar, hrow⟩ | ⟨kk, jj, f', st, hpar, hlt, hf, hs, hn, hrow⟩
    · rw [hpar] at ce
      have ce : vv = .non := ce
      subst ce
      refine iteF ⟨_, rfl, r, _, rfl, SqL.of Sf.1, fun R hR => k _ R fl.reverse (same_newK s2 hR) (Sf.rev hR) ?_⟩
      rw [er, hrow, List.nil_append, List.map_reverse]
    · rw [hpar] at ce
      obtain ⟨tc, vk, f2', rfl, htc, hf2, tvk⟩ := ce
      have : f' = f2' := by rw [hf] at hf2; exact Option.some.inj hf2
      subst this
      refine iteT ⟨fun σ' H'' => ∃ m', m' < m ∧ ∃ (g : En) (v' : V) (v4 : Option V) (fl : List (Addr × List Str)), es[m']? = some g ∧ σ' = [some (.ref d), some (.ref sa), some v', some (.ref r), v4] ∧ Same H H'' ∧ Tp H'' v' (dPr g.p) ∧ SS H'' r fl ∧ e.row = g.row ++ (fl.map (·.2)).reverse ∧ m' ≤ i, fun σ' H'' z => z, ?_⟩
      refine ⟨_, rfl, _, rfl, va, d, kPr g.p, kvs, .ref tc, rfl, rfl, Dn, hkey, hdep, hvv, tc, _, rfl, SqT.of htc, rfl, _, _, rfl, _, _, rfl, rfl, ?_⟩
      have hst : (l.map (·.2))[jj]? = some st := hs
      obtain ⟨q, hq, eq⟩ := map_get hst
      have Sl := S.same s2
      refine ⟨_, rfl, .inl ⟨rfl, _, SqL.of Sf.1⟩, _, rfl, _, rfl, sa, _, _, .ref q.1, rfl, rfl, SqL.of Sl.1, atI_nat (get_map (f := fun q : Addr × List Str => V.ref q.1) hq), q.1, _, rfl, .inl (SqL.of (Sl.2 q (List.mem_of_getElem? hq))), fun c hc => ?_⟩
      have nrc := ne_of_none Sf.1 hc
      have Sc := Sf.new (o := .lst (q.2.map V.str)) hc
      have hlen : fl.length ≤ 300 := by
        have := congrArg List.length er
        rw [List.length_append, List.length_reverse, List.length_map] at this
        omega
      refine ⟨r, _, _, rfl, rfl, Sc.1, ?_, kk, hlt, f', vk, _, fl ++ [(c, q.2)], hf, rfl, same_upd (same_newK s2 hc) hr0, tvk.mono ((tx_new hc).trans (tx_updL Sc.1)), Sc.snoc upd_same nrc.symm, ?_, by omega⟩
      · rw [List.length_map]; exact small1000 (by omega)
      · rw [er, hrow, List.map_append, List.reverse_append, eq]; simp
/-- what the top has written of TooMany (at CT, over SleepError at CS), its __init__ at fI -/
structure TMt (K : PySem.W.Frag) (mg : Str → Option Value) (CT CS fI : Addr) : Prop where
  ox : OexC K CT
  iC : PySem.W.findIn K (.ref CT) "__init__" = some (some (.ref fI))
  tI : PySem.W.typeIn K (.ref fI) = some (.type "function")
  m : mg "TooMany" = some (.ref CT)
  no : PySem.W.findIn K (.ref CT) "most" = some none
  mS : mg "SleepError" = some (.ref CS)
  rd : PySem.W.readsIn K CS (.type "type") = true
  ga : PySem.W.specialIn K (.ref CS) "__getattribute__" = some (some (.builtin "type.__getattribute__"))
  vV : PySem.W.findCls K (.ref CS) (.type "type") "__init__" = some (.val (.builtin "ValueError.__init__"))
variable {CT CS fI : Addr} {fdI : FuncData}
-- TooMany.__init__: slots 0 self, 1 most
abbrev S_TooMany_init : Stmt := (inClass (topS 7) 0)
abbrev N_TooMany_init : List Str := ["self", "most"]
theorem sc_TooMany_init : FnScope N_TooMany_init ["self", "most"] (defScope S_TooMany_init) := ⟨rfl, rfl, rfl, by decide +kernel, rfl, by decide +kernel, by decide +kernel⟩
def sp_tm (CT : Addr) : Sp := fun vs H Q _ => ∃ (a : Addr) (v : V), vs = [.ref a, v] ∧ H a = some (exo a CT none) ∧ ∀ dx, H dx = none → dx ≠ a → Q .non (upd (upd H dx (exd dx [("most", v)])) a (exo a CT (some dx)))
theorem ok_tm {f : Addr} {fd : FuncData} (F : Fun K "__init__" "TooMany.__init__" S_TooMany_init f fd) (TM : TMt K mg CT CS fI) : FnOk P w K mg base CX0 1 f fd ["self", "most"] (sp_tm CT) := by
  refine F.ok sc_TooMany_init (fun vs H Q E h => ?_) (fun cdv A outer s H vs Q E hr h => ?_)
  · obtain ⟨a, v, rfl, _⟩ := h
    rfl
  · obtain ⟨a, v, rfl, ea, k⟩ := h
    refine ⟨_, pss_cons (ps_expr (pe_baseinit rfl TM.mS TM.rd TM.ga TM.vV (pa_cons (pv 0) (pa_cons pe_str pa_nil)))) (pss_one (ps_ost (pv 0) (pv 1))), ?_⟩
    exact ⟨_, rfl, a, CT, _, rfl, by decide, TM.ox, ea, _, rfl, _, rfl, a, CT, rfl, TM.ox, TM.no, .inl ⟨ea, fun dx h1 h2 => k dx h1 h2⟩⟩
end
end L2.K83

set_option Elab.async false
set_option linter.all false
set_option maxRecDepth 100000
set_option maxHeartbeats 4000000
/-! The program: two halls told apart. -/
namespace L2.K83
open PySem PySem.Spec PyProof.Rows L2.KB
def scP (r1 r2 : List Int) (ss : List (List Str)) (q : St0 × St0) : List (St0 × St0) := ss.map fun st => stpP r1 r2 st q
/-- a row that parts is a shortest one -/
structure PartOk (r1 r2 : List Int) (hd : Bool) (p : St0 × St0) (ss : List (List Str)) (row : List (List Str)) : Prop where
  mem : ∀ st ∈ row, st ∈ ss
  len : row.length ≤ 301
  last : ∃ w' st q, row = w' ++ [st] ∧ KM.run (nxP r1 r2 hd) p w' = some q ∧ nxP r1 r2 hd q st = none
  short : ∀ w' : List (List Str), w'.length < row.length → (∀ st ∈ w', st ∈ ss) → ∃ q, KM.run (nxP r1 r2 hd) p w' = some q
structure AlikeOk (nm : List Str) (r1 r2 : List Int) (hd : Bool) (p : St0 × St0) (ss : List (List Str)) (ps : List (St0 × St0)) : Prop where
  bfs : ps = KM.bfsN (scP r1 r2 ss) p ps.length
  cl : ∀ q ∈ ps, ∀ st ∈ ss, ∃ q', nxP r1 r2 hd q st = some q' ∧ q' ∈ ps
  nd : ps.Nodup
  at_ : p ∈ ps
  ok : ∀ q ∈ ps, OkP nm q
  few : ps.length ≤ 200
theorem nx_some {r1 r2 : List Int} {hd : Bool} {p q : St0 × St0} {st : List Str} (h : nxP r1 r2 hd p st = some q) : q = stpP r1 r2 st p := by
  unfold nxP at h
  by_cases c : tellD hd st p = true
  · rw [if_pos c] at h; cases h
  · rw [if_neg c] at h; exact (Option.some.inj h).symm
theorem CameAt.mem {P : Program} {w : World} {H : Hp} {d : Addr} {es : List En} (h : CameAt P w H d es) (q : St0 × St0) : ∃ kvs, DN P w H d kvs ∧ kvs.length = es.length ∧ (valV kvs (kPr q)).isSome = decide (q ∈ es.map (·.p)) ∧ kvs.map (·.1) = es.map (fun e => kPr e.p) ∧ ∀ (i : Nat) (e : En) (kv : NestedKey × V), es[i]? = some e → kvs[i]? = some kv → CmE H es e kv.2 := by
  obtain ⟨kvs, h1, h2, h3⟩ := h
  refine ⟨kvs, h1, ?_, ?_, h2, h3⟩
  · have := congrArg List.length h2
    rw [List.length_map, List.length_map] at this
    exact this
  · rw [← valV_any, Bool.eq_iff_iff, List.any_eq_true, decide_eq_true_iff]
    constructor
    · rintro ⟨kv, hk, e⟩
      have : kv.1 ∈ es.map (fun e => kPr e.p) := by rw [← h2]; exact List.mem_map_of_mem hk
      rw [of_decide_eq_true e] at this
      obtain ⟨e', he', ek⟩ := List.mem_map.mp this
      exact List.mem_map.mpr ⟨e', he', kPr_inj ek⟩
    · intro hm
      obtain ⟨e', he', rfl⟩ := List.mem_map.mp hm
      have : kPr e'.p ∈ kvs.map (·.1) := by rw [h2]; exact List.mem_map_of_mem he'
      obtain ⟨kv, hk, e⟩ := List.mem_map.mp this
      exact ⟨kv, hk, decide_eq_true e⟩
/-- where the search stands: node c, j of its strokes gone through -/
structure TAI (P : Program) (w : World) (H0 H : Hp) (L d : Addr) (r1 r2 : List Int) (hd : Bool) (ss : List (List Str)) (p : St0 × St0) (most : Int) (nm : List Str) (es : List En) (c j : Nat) (cur : List (St0 × St0)) : Prop where
  G : KM.Good (nxP r1 r2 hd) ss p es
  D : KM.Done (nxP r1 r2 hd) ss es c j
  bf : es.map (·.p) = cur
  le : es.length ≤ most.toNat
  ok : ∀ e ∈ es, OkP nm e.p
  same : Same H0 H
  pl : ∃ ws, H L = some (.lst ws) ∧ TpA H ws ((es.map (·.p)).map dPr)
  cm : CameAt P w H d es
section
variable {P : Program} {w : World} {K : PySem.W.Frag} {mg : Str → Option Value} {base : Heap} {C CT CS fI : Addr} {f1 f2 f3 f4 f5 : Addr} {fdI fd1 fd2 fd3 fd4 fd5 : FuncData}
-- told_apart: slots 0 one, 1 first, 2 other, 3 second, 4 strokes, 5 heard, 6 most, 7 pairs, 8 came, 9 at, 10 place, 11 stroke, 12 behind
abbrev S_told_apart : Stmt := (topS 20)
abbrev N_told_apart : List Str := ["one", "first", "other", "second", "strokes", "heard", "most", "pairs", "came", "at", "place", "stroke", "behind"]
theorem sc_told_apart : FnScope N_told_apart ["one", "first", "other", "second", "strokes", "heard", "most"] (defScope S_told_apart) := ⟨rfl, rfl, rfl, by decide +kernel, rfl, by decide +kernel, by decide +kernel⟩
def sp_told (C CT : Addr) : Sp := fun vs H Q E => ∃ (p1 p2 sa : Addr) (v1 v2 : V) (r1 r2 : List Int) (p : St0 × St0) (l : List (Addr × List Str)) (nm : List Str) (hd : Bool) (most : Int), vs = [.ref p1, v1, .ref p2, v2, .ref sa, .bl hd, .int most] ∧ BookAt C H p1 r1 ∧ BookAt C H p2 r2 ∧ Tp H v1 (dSt p.1) ∧ Tp H v2 (dSt p.2) ∧ SS H sa l ∧ OkR nm r1 ∧ OkR nm r2 ∧ OkP nm p ∧ l.length ≤ 8 ∧ 1 ≤ most ∧ most ≤ 200 ∧
  (∀ (d : Option Addr) H', E (.ref CT) d H') ∧
  (∀ (H' : Hp) (t R : Addr) (lr : List (Addr × List Str)), Same H H' → H' t = some (.tup [.str "parted", .ref R]) → SS H' R lr → PartOk r1 r2 hd p (l.map (·.2)) (lr.map (·.2)) → Q (.ref t) H') ∧
  ∀ (H' : Hp) (t L : Addr) (ws : List V) (ps : List (St0 × St0)), Same H H' → H' t = some (.tup [.str "alike", .ref L]) → H' L = some (.lst ws) → TpA H' ws (ps.map dPr) → AlikeOk nm r1 r2 hd p (l.map (·.2)) ps → Q (.ref t) H'
theorem ok_told {f : Addr} {fd : FuncData} (F : FunD K "told_apart" "told_apart" (defArgs S_told_apart) (defBody S_told_apart) (defScope S_told_apart) [] [] f fd) (T : Txt K mg C) (TM : TMt K mg CT CS fI) (Gtm : FnOk P w K mg base CX0 1 fI fdI ["self", "most"] (sp_tm CT)) (bTm : Binds K fdI ["self", "most"] [])
    (Dboth_behind : Fd P w K mg base CX0 6 "both_behind" f1 fd1 ["one", "other", "pair", "stroke", "heard"] (sp_both C)) (Drow_to : Fd P w K mg base CX0 1 "row_to" f2 fd2 ["came", "strokes", "pair"] (sp_row P w)) :
    FnOk P w K mg base (L2.CX P w) 7 f fd ["one", "first", "other", "second", "strokes", "heard", "most"] (sp_told C CT) := by
  refine F.ok sc_told_apart (fun vs H Q E h => ?_) (fun cdv A outer s H vs Q E hr h => ?_)
  · obtain ⟨p1, p2, sa, v1, v2, r1, r2, p, l, nm, hd, most, rfl, _⟩ := h
    rfl
  · obtain ⟨p1, p2, sa, v1, v2, r1, r2, p, l, nm, hd, most, rfl, bk1, bk2, t1, t2, S, R1, R2, ok, l8, m1, m2, kE, kP, kA⟩ := h
    refine ⟨_, (pss_cons (ps_set (i := 7) sc_told_apart.nd rfl (Or.inl rfl) (pe_lst (pa_cons (pe_tup (pa_cons (pv 1) (pa_cons (pv 3) pa_nil))) pa_nil)))
      (pss_cons (ps_set (i := 8) sc_told_apart.nd rfl (Or.inl rfl) (pe_disp1 hr.units (pe_ix ix_list (pv 7) pe_int (fun _ _ => rfl)) pe_non))
      (pss_cons (ps_set (i := 9) sc_told_apart.nd rfl (Or.inl rfl) pe_int)
      (pss_cons (ps_while (passes_of rfl) (pt_cmpR op_lt (pv 9) (pe_callB call_len_seq (by rfl) T.b_len PySem.boot_len (pa_cons (pv 7) pa_nil)) (nomark _))
        (pss_cons (ps_for (passes_of rfl) rfl (pi_enum (by rfl) T.b_enumerate (pa_cons (pv 4) pa_nil)) (pg_tup rfl (pgs_cons (pg_name (i := 10) sc_told_apart.nd rfl (Or.inl rfl)) (pgs_cons (pg_name (i := 11) sc_told_apart.nd rfl (Or.inl rfl)) pgs_nil)))
          (pss_cons (ps_set (i := 12) sc_told_apart.nd rfl (Or.inl rfl) (pe_call Dboth_behind.ok (hr.mono (by decide)) rfl Dboth_behind.m Dboth_behind.kp Dboth_behind.b .nil pass0 (pa_cons (pv 0) (pa_cons (pv 2) (pa_cons (pe_ix ix_list (pv 7) (pv 9) (fun _ _ => rfl)) (pa_cons (pv 11) (pa_cons (pv 5) pa_nil)))))))
          (pss_cons (ps_if (pt_cmpR op_isN (pv 12) pe_non (nomark _)) (pss_one (ps_ret (pe_tup (pa_cons pe_str (pa_cons (pe_op op_cat (pe_call Drow_to.ok (hr.mono (by decide)) rfl Drow_to.m Drow_to.kp Drow_to.b .nil pass0 (pa_cons (pv 8) (pa_cons (pv 4) (pa_cons (pe_ix ix_list (pv 7) (pv 9) (fun _ _ => rfl)) pa_nil)))) (pe_lst (pa_cons (pe_callTy call_list_of (by rfl) T.b_list (by decide +kernel) (pa_cons (pv 11) pa_nil)) pa_nil))) pa_nil))))) pss_nil)
          (pss_one (ps_if (pt_cmpR (op_notInN hr.units) (pv 12) (pv 8) (by rfl)) (pss_cons (ps_asg (pe_tup (pa_cons (pe_ix ix_list (pv 7) (pv 9) (fun _ _ => rfl)) (pa_cons (pv 10) pa_nil))) (pg_sub (pv 8) (pv 12) (set_N hr.units)))
            (pss_cons (ps_expr (pe_bm PySem.F.plainAttrs_list PySem.F.slot_list_append PySem.F.type_list_append mt_append (pv 7) (pa_cons (pv 12) pa_nil)))
            (pss_one (ps_if (pt_cmpR op_gt (pe_callB call_len_seq (by rfl) T.b_len PySem.boot_len (pa_cons (pv 7) pa_nil)) (pv 6) (nomark _)) (pss_one (ps_raise rfl (takes_of rfl rfl rfl rfl) (pmk_oex TM.ox TM.iC TM.tI Gtm (hr.mono (by decide)) bTm .nil pass0 rfl TM.m (pa_cons (pv 6) pa_nil)))) pss_nil)))) pss_nil)))))
        (pss_one (ps_aug (i := 9) sc_told_apart.nd rfl (Or.inl rfl) pe_int ip_add))))
      (pss_one (ps_ret (pe_tup (pa_cons pe_str (pa_cons (pv 7) pa_nil))))))))), ?_⟩
    refine ⟨_, rfl, _, rfl, (by show 2 ≤ sizeLine; decide), fun t0 ht0 => ⟨(by show 1 ≤ sizeLine; decide), fun L hL => ?_⟩⟩
    have L0 : H L = none := (same_newK (fun _ _ h => h : Same H H) (o := .tup [v1, v2]) ht0).free hL
    have sL := same_newK (same_newK (fun _ _ h => h : Same H H) (o := .tup [v1, v2]) ht0) (o := .lst [.ref t0]) hL
    have nt0L : t0 ≠ L := ne_of_none upd_same hL
    generalize hH1 : upd (upd H t0 (.tup [v1, v2])) L (.lst [.ref t0]) = H1 at sL
    have eL1 : H1 L = some (.lst [.ref t0]) := by rw [← hH1]; exact upd_same
    have et1 : H1 t0 = some (.tup [v1, v2]) := by rw [← hH1, upd_ne nt0L]; exact upd_same
    clear hH1
    intro d o hd0 Dn
    have d0 : H d = none := sL.free hd0
    have nLd : L ≠ d := ne_of_none eL1 hd0
    have nt0d : t0 ≠ d := ne_of_none et1 hd0
    have tpr : Tp (upd H1 d o) (.ref t0) (dPr p) := tp_pr_of (by rw [upd_ne nt0d]; exact et1) (t1.mono (tx_same (same_newK sL hd0))) (t2.mono (tx_same (same_newK sL hd0)))
    refine ⟨_, rfl, L, _, 0, .ref t0, rfl, rfl, SqL.of (by rw [upd_ne nLd]; exact eL1), rfl, t0, kPr p, rfl, Dn, by rw [data_pr]; exact tpr, Nat.le_trans (depth_pr _) (by decide), fun o' Dn' => ?_⟩
    have s2 : Same H (upd (upd H1 d o) d o') := same_upd (same_newK sL hd0) d0
    have bk : ∀ {H' : Hp}, Same H H' → BookAt C H' p1 r1 ∧ BookAt C H' p2 r2 := fun q => ⟨bk1.same q, bk2.same q⟩
    have I0 : TAI P w H (upd (upd H1 d o) d o') L d r1 r2 hd (l.map (·.2)) p most nm [⟨p, none, []⟩] 0 0 [p] := by
      refine ⟨KM.Good.init _ _ _, KM.Done.init _ _ _, rfl, by show 1 ≤ most.toNat; omega, fun e he => ?_, s2, ⟨[.ref t0], by rw [upd_ne nLd, upd_ne nLd]; exact eL1, .cons ?_ .nil⟩, ⟨_, Dn', rfl, fun i e kv he hk => ?_⟩⟩
      · have : e = ⟨p, none, []⟩ := List.mem_singleton.mp he
        subst this; exact ok
      · refine tp_pr_of ?_ (t1.mono (tx_same s2)) (t2.mono (tx_same s2))
        rw [upd_ne nt0d, upd_ne nt0d]; exact et1
      · match i, he, hk with
        | 0, he, hk =>
          cases Option.some.inj he
          cases Option.some.inj hk
          rfl
        | i + 1, he, hk => simp at he
    clear tpr eL1 et1 nt0d nt0L hd0 Dn Dn' hL ht0 sL
    refine ⟨fun m σ H' => ∃ (es : List En) (c : Nat) (v10 v11 v12 : Option V), m = 201 - c ∧ c ≤ es.length ∧ σ = [some (.ref p1), some v1, some (.ref p2), some v2, some (.ref sa), some (.bl hd), some (.int most), some (.ref L), some (.ref d), some (.int (c : Int)), v10, v11, v12] ∧ TAI P w H H' L d r1 r2 hd (l.map (·.2)) p most nm es c 0 (KM.bfsN (scP r1 r2 (l.map (·.2))) p c), ⟨201, [⟨p, none, []⟩], 0, none, none, none, rfl, Nat.zero_le _, rfl, I0⟩, ?_⟩
    clear I0 s2
    rintro m σ H2 ⟨es, c, v10, v11, v12, rfl, hce, rfl, I⟩
    obtain ⟨ws, eL, tws⟩ := I.pl
    have lw : ws.length = es.length := by rw [tws.length, List.length_map, List.length_map]
    refine ⟨_, rfl, _, rfl, L, _, rfl, .inl (SqL.of eL), _, _, rfl, rfl, _, rfl, iteD (fun hc => ?_) (fun hc => ?_)⟩
    · rw [lw] at hc
      have hc' : c < es.length := by omega
      have ec : es[c]? = some es[c] := List.getElem?_eq_getElem hc'
      generalize hec : es[c] = e at ec
      have lmost := I.le
      refine ⟨fun σ' H'' => ∃ m', m' < 201 - c ∧ ∃ (es : List En) (c : Nat) (v10 v11 v12 : Option V), m' = 201 - c ∧ c ≤ es.length ∧ σ' = [some (.ref p1), some v1, some (.ref p2), some v2, some (.ref sa), some (.bl hd), some (.int most), some (.ref L), some (.ref d), some (.int (c : Int)), v10, v11, v12] ∧ TAI P w H H'' L d r1 r2 hd (l.map (·.2)) p most nm es c 0 (KM.bfsN (scP r1 r2 (l.map (·.2))) p c), fun σ' H'' z => z, ?_⟩
      have hbf : (KM.bfsN (scP r1 r2 (l.map (·.2))) p c)[c]? = some e.p := by rw [← I.bf]; exact get_map (f := fun e : En => e.p) ec
      refine ⟨_, rfl, sa, _, rfl, SqL.of (S.same I.same).1, for_it (n := l.length) (fun j σ H' => ∃ (es' : List En) (v10 v11 v12 : Option V), σ = [some (.ref p1), some v1, some (.ref p2), some v2, some (.ref sa), some (.bl hd), some (.int most), some (.ref L), some (.ref d), some (.int (c : Int)), v10, v11, v12] ∧ es'[c]? = some e ∧ TAI P w H H' L d r1 r2 hd (l.map (·.2)) p most nm es' c j (KM.addAll (KM.bfsN (scP r1 r2 (l.map (·.2))) p c) ((scP r1 r2 (l.map (·.2)) e.p).take j))) ?_ ?_ ?_ ?_ ?_⟩
      · exact ⟨es, _, _, _, rfl, ec, by rw [List.take_zero]; exact I⟩
      · rintro j σ H' hj ⟨es', _, _, _, rfl, _, I'⟩
        exact ⟨_, _, SqL.of (S.same I'.same).1, get_map (f := fun q : Addr × List Str => V.ref q.1) (List.getElem?_eq_getElem hj)⟩
      · rintro σ H' ⟨es', _, _, _, rfl, _, I'⟩
        exact ⟨_, SqL.of (S.same I'.same).1, by rw [List.length_map]; exact Nat.le_refl _⟩
      · rintro j σ H' hj ⟨es', v10, v11, v12, rfl, ec', I'⟩ x H3 ⟨T0, y, rfl, nT, rfl, hy⟩
        obtain ⟨q, hq, rfl⟩ := map_get (hy _ (SqL.of (S.same I'.same).1))
        have hqm := List.mem_of_getElem? hq
        have hst : (l.map (·.2))[j]? = some q.2 := get_map (f := fun q : Addr × List Str => q.2) hq
        obtain ⟨ws', eL', tws'⟩ := I'.pl
        have lw' : ws'.length = es'.length := by rw [tws'.length, List.length_map, List.length_map]
        have lm' := I'.le
        have s3 := same_newK I'.same (o := .tup [.int ((j : Nat) : Int), .ref q.1]) nT
        have s33 := same_newK (fun _ _ h => h : Same H' H') (o := .tup [.int ((j : Nat) : Int), .ref q.1]) nT
        generalize hH3 : upd H' T0 (.tup [.int ((j : Nat) : Int), .ref q.1]) = H3 at s3 s33
        have eT3 : H3 T0 = some (.tup [.int ((j : Nat) : Int), .ref q.1]) := by rw [← hH3]; exact upd_same
        clear hH3
        obtain ⟨vp, hvp, tvp⟩ := tws'.get' (get_map (f := dPr) (get_map (f := fun e : En => e.p) ec'))
        have oke := I'.ok e (List.mem_of_getElem? ec')
        have hcl : c < ws'.length := (List.getElem?_eq_some_iff.mp hvp).1
        have ea : atI ws' (c : Int) = some vp := atI_nat hvp
        refine ⟨T0, _, rfl, SqT.of eT3, rfl, _, _, rfl, _, _, rfl, rfl, ?_⟩
        refine ⟨_, rfl, _, rfl, _, rfl, _, rfl, L, _, _, vp, rfl, rfl, SqL.of (s33 _ _ eL'), ea, _, rfl, _, rfl, p1, p2, q.1, vp, r1, r2, e.p, q.2, nm, hd, rfl, (bk s3).1, (bk s3).2, tvp.mono (tx_same s33), (S.same s3).2 q hqm, R1, R2, oke, fun hn H4 s4 => ?_, fun qq hs H4 v' s4 tv' => ?_⟩
        · -- a row that parts
          refine ⟨_, rfl, rfl, _, rfl, iteD (fun _ => ?_) (fun c => absurd rfl c)⟩
          have s34 := s33.trans s4
          have s04 := s3.trans s4
          refine ⟨_, rfl, _, rfl, _, rfl, _, rfl, L, _, _, vp, rfl, rfl, SqL.of (s34 _ _ eL'), ea, d, sa, vp, es', l, nxP r1 r2 hd, p, c, e, rfl, I'.cm.same s34, S.same s04, I'.G, by omega, ec', tvp.mono (tx_same s34), fun H5 R lr s5 SR er => ?_⟩
          have s05 := s04.trans s5
          refine ⟨_, rfl, q.1, _, rfl, .inl (SqL.of ((S.same s05).2 q hqm)), fun c1 hc1 => ⟨(by show 1 ≤ sizeLine; decide), fun e1 he1 => ?_⟩⟩
          have S1 := (SR.new (o := .lst (q.2.map V.str)) hc1)
          have S2 := S1.new (o := .lst [.ref c1]) he1
          have nc1 : c1 ≠ e1 := ne_of_none upd_same he1
          have rsh := row_short I'.G c e ec'
          have lrl : lr.length = e.row.length := by have := congrArg List.length er; rw [List.length_map] at this; exact this
          have lcm := KM.lt_of_get ec'
          refine ⟨R, e1, _, _, rfl, rfl, S2.1, upd_same, ?_, fun R2 hR2 => ⟨(by show 2 ≤ sizeLine; decide), fun t ht => ?_⟩⟩
          · rw [List.length_map]; exact Nat.le_of_lt (small1000 (by show lr.length + 1 ≤ 1000; omega))
          have ec1 : (upd (upd H5 c1 (.lst (q.2.map V.str))) e1 (.lst [.ref c1])) c1 = some (.lst (q.2.map V.str)) := by rw [upd_ne nc1]; exact upd_same
          have SF : SS (upd (upd (upd H5 c1 (.lst (q.2.map V.str))) e1 (.lst [.ref c1])) R2 (.lst ((lr.map fun q => V.ref q.1) ++ [.ref c1]))) R2 (lr ++ [(c1, q.2)]) := by
            refine ⟨by rw [upd_same, List.map_append]; rfl, fun x hx => ?_⟩
            rcases List.mem_append.mp hx with z | z
            · have := S2.2 x z
              rw [upd_ne (ne_of_none this hR2)]; exact this
            · have : x = (c1, q.2) := List.mem_singleton.mp z
              subst this
              rw [upd_ne (ne_of_none ec1 hR2)]; exact ec1
          refine kP _ t R2 (lr ++ [(c1, q.2)]) (same_newK (same_newK (same_newK (same_newK s05 hc1) he1) hR2) ht) upd_same (SF.new ht) ?_
          obtain ⟨hrun, hmem⟩ := I'.G.run_ok c e ec'
          have erow : (lr ++ [(c1, q.2)]).map (·.2) = e.row ++ [q.2] := by rw [List.map_append, er]; rfl
          rw [erow]
          refine ⟨fun st hst' => ?_, ?_, ⟨e.row, q.2, e.p, rfl, hrun, hn⟩, fun w' hw' hss => ?_⟩
          · rcases List.mem_append.mp hst' with z | z
            · exact hmem st z
            · have : st = q.2 := List.mem_singleton.mp z
              subst this; exact List.mem_of_getElem? hst
          · rw [List.length_append]; show e.row.length + 1 ≤ 301; omega
          · rw [List.length_append] at hw'
            have hw' : w'.length < e.row.length + 1 := hw'
            obtain ⟨f', _, hr', _⟩ := KM.short_runs I'.D I'.G ec' w'.length w' rfl (by omega) hss
            exact ⟨f'.p, hr'⟩
        · -- on
          have hqq := nx_some hs
          have s34 := s33.trans s4
          have s04 := s3.trans s4
          have okq : OkP nm qq := by rw [hqq]; exact oke.step R1 R2 _
          obtain ⟨va, w1, w2, rfl, eva, _⟩ := tp_pr tv'
          have hadd : KM.addAll (KM.bfsN (scP r1 r2 (l.map (·.2))) p c) ((scP r1 r2 (l.map (·.2)) e.p).take (j + 1)) = KM.add (es'.map (·.p)) qq := by
            have hsc : (scP r1 r2 (l.map (·.2)) e.p)[j]? = some qq := by rw [hqq]; exact get_map (f := fun st => stpP r1 r2 st e.p) hst
            rw [KM.take_snoc hsc, KM.addAll_snoc, I'.bf]
          refine ⟨_, rfl, rfl, _, rfl, iteD (fun c => nomatch c) (fun _ => ?_)⟩
          obtain ⟨kvs, Dn, lk, hin, hkeys, hcm⟩ := (I'.cm.same s34).mem qq
          have hkq : Tp H4 (.ref va) (kPr qq).data := by rw [data_pr]; exact tv'
          have hdep : (kPr qq).depth ≤ 7 := Nat.le_trans (depth_pr _) (by decide)
          refine ⟨_, rfl, _, rfl, va, d, kPr qq, kvs, rfl, rfl, Dn, hkq, hdep, _, rfl, iteB (fun hc0 => ?_) (fun hc0 => ?_)⟩
          · have hc1 : (!(valV kvs (kPr qq)).isSome) = true := hc0
            have hnm : qq ∉ es'.map (·.p) := fun z => by rw [hin, decide_eq_true z] at hc1; cases hc1
            have hnone : valV kvs (kPr qq) = none := by
              cases e0 : valV kvs (kPr qq) with
              | none => rfl
              | some _ => rw [e0] at hc1; cases hc1
            have eL4 := s34 _ _ eL'
            refine ⟨_, rfl, _, rfl, L, _, _, vp, rfl, rfl, SqL.of eL4, ea, _, rfl, (by show 2 ≤ sizeLine; decide), fun tc htc => ?_⟩
            have sA := same_newK (fun _ _ h => h : Same H4 H4) (o := .tup [vp, .int ((j : Nat) : Int)]) htc
            generalize hHa : upd H4 tc (.tup [vp, .int ((j : Nat) : Int)]) = Ha at sA
            have eTc : Ha tc = some (.tup [vp, .int ((j : Nat) : Int)]) := by rw [← hHa]; exact upd_same
            clear hHa
            have DnA := Dn.same sA
            refine ⟨_, rfl, _, rfl, va, d, kPr qq, kvs, rfl, rfl, DnA, by rw [lk]; exact small1000 (by omega), hkq.mono (tx_same sA), hdep, fun o2 Dn2 => ?_⟩
            have eLa := sA _ _ eL4
            have eLb : (upd Ha d o2) L = some (.lst ws') := by rw [upd_ne nLd]; exact eLa
            have txB : TX Ha (upd Ha d o2) := tx_upd (DnA.ntup)
            refine ⟨_, rfl, .inl ⟨rfl, _, SqL.of eLb⟩, _, rfl, L, _, _, rfl, rfl, eLb, by rw [lw']; exact small1000 (by omega), ?_⟩
            have txC : TX (upd Ha d o2) (upd (upd Ha d o2) L (.lst (ws' ++ [.ref va]))) := tx_updL eLb
            have tx4C : TX H4 (upd (upd Ha d o2) L (.lst (ws' ++ [.ref va]))) := ((tx_same sA).trans txB).trans txC
            have sF : Same H (upd (upd Ha d o2) L (.lst (ws' ++ [.ref va]))) := same_upd (same_upd (s04.trans sA) d0) L0
            refine ⟨_, rfl, L, _, rfl, .inl (SqL.of upd_same), _, rfl, _, _, rfl, rfl, _, rfl, iteD (fun hm => ?_) (fun hm => ?_)⟩
            · refine ⟨_, rfl, (by show 1 ≤ 1000; decide), fun a1 ha1 => ⟨a1, _, rfl, upd_same, fun dx h1 h2 => ⟨rfl, dx, _, upd_same, by rw [upd_ne h2]; exact upd_same, ?_, kE _ _⟩⟩⟩
              rw [upd_ne h2] at h1; exact h1
            · rw [List.length_append] at hm
              have hm : ¬ most < ((ws'.length + 1 : Nat) : Int) := hm
              refine ⟨es' ++ [⟨qq, some (c, j), e.row ++ [q.2]⟩], _, _, _, rfl, KM.get_snoc_of ec', ?_⟩
              refine ⟨I'.G.new I'.D ec' hst hs hnm, I'.D.new I'.G ec' hst hs, ?_, ?_, fun e2 he2 => ?_, sF, ⟨ws' ++ [.ref va], upd_same, ?_⟩, ⟨putK kvs (kPr qq) (.ref tc), Dn2.mono (by rw [upd_ne nLd.symm]) txC, ?_, ?_⟩⟩
              · rw [hadd, List.map_append]
                unfold KM.add
                rw [if_neg hnm]; rfl
              · rw [List.length_append]
                show es'.length + 1 ≤ most.toNat
                rw [lw'] at hm
                omega
              · rcases List.mem_append.mp he2 with z | z
                · exact I'.ok e2 z
                · have : e2 = ⟨qq, some (c, j), e.row ++ [q.2]⟩ := List.mem_singleton.mp z
                  subst this; exact okq
              · rw [List.map_append, List.map_append]
                exact TpA.snoc ((tws'.mono (tx_same s34)).mono tx4C) (tv'.mono tx4C)
              · rw [putK_new _ hnone, List.map_append, hkeys, List.map_append]; rfl
              · intro i2 e2 kv he2 hk2
                rw [putK_new _ hnone] at hk2
                rcases KM.get_snoc he2 with h1 | ⟨h1, rfl⟩
                · rcases KM.get_snoc hk2 with h2 | ⟨h2, _⟩
                  · exact ((hcm i2 e2 kv h1 h2).mono tx4C).grow
                  · have := KM.lt_of_get h1; omega
                · rcases KM.get_snoc hk2 with h2 | ⟨h2, rfl⟩
                  · have := KM.lt_of_get h2; omega
                  · show CmE _ _ _ (.ref tc)
                    unfold CmE
                    refine ⟨tc, vp, e, rfl, (txB.trans txC) _ _ eTc, KM.get_snoc_of ec', (tvp.mono (tx_same s34)).mono tx4C⟩
          · have hc1 : (!(valV kvs (kPr qq)).isSome) = false := hc0
            have hm : qq ∈ es'.map (·.p) := by
              by_cases z : qq ∈ es'.map (·.p)
              · exact z
              · rw [hin, decide_eq_false z] at hc1; cases hc1
            refine ⟨es', _, _, _, rfl, ec', I'.G, I'.D.old I'.G ec' hst hs hm, ?_, I'.le, I'.ok, s04, ⟨ws', s34 _ _ eL', tws'.mono (tx_same s34)⟩, I'.cm.same s34⟩
            rw [hadd]
            unfold KM.add
            rw [if_pos hm]
      · rintro σ H' ⟨es', v10, v11, v12, rfl, ec', I'⟩
        refine ⟨_, rfl, _, _, rfl, rfl, ?_⟩
        refine ⟨201 - (c + 1), by omega, es', c + 1, _, _, _, rfl, KM.lt_of_get ec', rfl, ?_⟩
        have hl : (scP r1 r2 (l.map (·.2)) e.p).take l.length = scP r1 r2 (l.map (·.2)) e.p := List.take_of_length_le (by unfold scP; rw [List.length_map, List.length_map]; exact Nat.le_refl _)
        rw [hl, ← KM.bfsN_step _ _ hbf] at I'
        refine { I' with D := KM.Done.next (by rw [List.length_map]; exact I'.D) I'.G }
    · rw [lw] at hc
      have hcl : c = es.length := by omega
      refine ⟨_, rfl, (by show 2 ≤ sizeLine; decide), fun t ht => kA _ t L ws (es.map (·.p)) (same_newK I.same ht) upd_same (by rw [upd_ne (ne_of_none eL ht)]; exact eL) (tws.mono (tx_new ht)) ?_⟩
      have lml := I.le
      refine ⟨?_, ?_, I.G.nd, ?_, ?_, by rw [List.length_map]; omega⟩
      · rw [List.length_map, ← hcl]; exact I.bf
      · intro q hq st hst
        obtain ⟨e, he, rfl⟩ := List.mem_map.mp hq
        obtain ⟨i, hi⟩ := List.getElem?_of_mem he
        obtain ⟨f', hf, hn, _⟩ := I.D.all i e (by rw [hcl]; exact KM.lt_of_get hi) hi st hst
        exact ⟨f'.p, hn, List.mem_map_of_mem hf⟩
      · have := List.mem_of_getElem? I.G.zero
        exact List.mem_map.mpr ⟨_, this, rfl⟩
      · intro q hq
        obtain ⟨e, he, rfl⟩ := List.mem_map.mp hq
        exact I.ok e he
end
end L2.K83

set_option Elab.async false
set_option linter.all false
set_option maxRecDepth 100000
set_option maxHeartbeats 4000000
/-! The program: what is asked of told pairs. -/
namespace L2.K83
open PySem PySem.Spec PyProof.Rows L2.KB
section
variable {P : Program} {w : World} {K : PySem.W.Frag} {mg : Str → Option Value} {base : Heap} {C CT CS fI : Addr} {f1 f2 f3 f4 f5 : Addr} {fdI fd1 fd2 fd3 fd4 fd5 : FuncData}
-- is_standing: slots 0 thing, 1 names, 2 at, 3 one
abbrev S_is_standing : Stmt := (topS 21)
abbrev N_is_standing : List Str := ["thing", "names", "at", "one"]
theorem sc_is_standing : FnScope N_is_standing ["thing", "names"] (defScope S_is_standing) := ⟨rfl, rfl, rfl, by decide +kernel, rfl, by decide +kernel, by decide +kernel⟩
def sp_stnd : Sp := fun vs H Q _ => ∃ (v : V) (na : Addr) (s : St0) (nm : List Str), vs = [v, .ref na] ∧ Tp H v (dSt s) ∧ H na = some (.lst (nm.map V.str)) ∧ OkS nm s ∧ ∀ H', Same H H' → Q (.bl true) H'
theorem ok_stnd {f : Addr} {fd : FuncData} (F : Fun K "is_standing" "is_standing" S_is_standing f fd) (T : Txt K mg C) (Dis_whole : Fd P w K mg base CX0 1 "is_whole" f1 fd1 ["thing"] sp_whole) : FnOk P w K mg base CX0 2 f fd ["thing", "names"] sp_stnd := by
  refine F.ok sc_is_standing (fun vs H Q E h => ?_) (fun cdv A outer s H vs Q E hr h => ?_)
  · obtain ⟨v, na, s, nm, rfl, _⟩ := h
    rfl
  · obtain ⟨v, na, s, nm, rfl, tv, en, ok, k⟩ := h
    obtain ⟨ta, xs, rfl, et, tx⟩ := tp_st tv
    have lx : xs.length = s.length := by rw [tx.length, List.length_map]
    have ln := ok.length
    refine ⟨_, (pss_cons (ps_if (PW.pt (pw_or (pt_not (pt_val (pe_callB call_isi (by rfl) T.b_isinstance (by decide +kernel) (pa_cons (pv 0) (pa_cons (pe_bltn (v := .ty "tuple") (by rfl) T.b_tuple (by decide +kernel) rfl) pa_nil))))) (pw_or1 (pt_cmpR op_ne (pe_callB call_len_seq (by rfl) T.b_len PySem.boot_len (pa_cons (pv 0) pa_nil)) (pe_callB call_len_seq (by rfl) T.b_len PySem.boot_len (pa_cons (pv 1) pa_nil)) (nomark _))))) (pss_one (ps_ret pe_bl)) pss_nil)
      (pss_cons (ps_for PassesOwn.never rfl (pi_enumT (by rfl) T.b_enumerate (pa_cons (pv 0) pa_nil)) (pg_tup rfl (pgs_cons (pg_name (i := 2) sc_is_standing.nd rfl (Or.inl rfl)) (pgs_cons (pg_name (i := 3) sc_is_standing.nd rfl (Or.inl rfl)) pgs_nil)))
        (pss_cons (ps_if (PW.pt (pw_or (pt_not (pt_val (pe_callB call_isi (by rfl) T.b_isinstance (by decide +kernel) (pa_cons (pv 3) (pa_cons (pe_bltn (v := .ty "tuple") (by rfl) T.b_tuple (by decide +kernel) rfl) pa_nil))))) (pw_or (pt_cmpR op_ne (pe_callB call_len_seq (by rfl) T.b_len PySem.boot_len (pa_cons (pv 3) pa_nil)) pe_int (nomark _)) (pw_or1 (pt_cmpR op_ne (pe_ix ix_tup (pv 3) pe_int (fun _ _ => rfl)) (pe_ix ix_list (pv 1) (pv 2) (fun _ _ => rfl)) (nomark _)))))) (pss_one (ps_ret pe_bl)) pss_nil)
        (pss_one (ps_if (PW.pt (pw_or (pt_not (pt_val (pe_callB call_isi (by rfl) T.b_isinstance (by decide +kernel) (pa_cons (pe_ix ix_tup (pv 3) pe_int (fun _ _ => rfl)) (pa_cons (pe_bltn (v := .ty "str") (by rfl) T.b_str (by decide +kernel) rfl) pa_nil))))) (pw_or (pt_not (pt_val (pe_call Dis_whole.ok (hr.mono (by decide)) rfl Dis_whole.m Dis_whole.kp Dis_whole.b .nil pass0 (pa_cons (pe_ix ix_tup (pv 3) pe_int (fun _ _ => rfl)) pa_nil)))) (pw_or1 (pt_cmpR op_lt (pe_ix ix_tup (pv 3) pe_int (fun _ _ => rfl)) pe_int (nomark _)))))) (pss_one (ps_ret pe_bl)) pss_nil))))
      (pss_one (ps_ret pe_bl)))), ?_⟩
    refine ⟨_, rfl, .ref ta, .ty "tuple", .type "tuple", .type "tuple", true, rfl, .ty _, .base (.tup et), kit_ty (by decide +kernel), true, rfl, iteF ⟨_, rfl, ta, _, rfl, .inr (SqT.of et), _, rfl, na, _, rfl, .inl (SqL.of en), rfl, _, rfl, iteDN (fun c => absurd (by rw [List.length_map, lx, ln]) c) (fun _ => ?_)⟩⟩
    refine ⟨_, rfl, ta, xs, rfl, SqT.of et, for_enumT (K := K) (a := ta) (xs := xs) (fun i σ H' => ∃ v2 v3 : Option V, σ = [some (.ref ta), some (.ref na), v2, v3] ∧ Same H H') ⟨none, none, rfl, fun _ _ h => h⟩ ?_ ?_ ?_⟩
    · rintro i σ H' ⟨_, _, rfl, q⟩
      exact SqT.of (q _ _ et)
    · rintro i x σ H' hi ⟨_, _, rfl, q⟩ T0 hT
      obtain ⟨z, hz, tz⟩ := tpa_item tx hi
      obtain ⟨za, rfl, ez⟩ := tp_sl tz
      have q2 := same_newK q (o := .tup [.int ((i : Nat) : Int), .ref za]) hT
      generalize hH2 : upd H' T0 (.tup [.int ((i : Nat) : Int), .ref za]) = H2 at q2
      have eT : H2 T0 = some (.tup [.int ((i : Nat) : Int), .ref za]) := by rw [← hH2]; exact upd_same
      have ez2 : H2 za = some (.tup [.str z.1, .int z.2]) := q2 _ _ ez
      have hnm : nm[i]? = some z.1 := by rw [← ok.nm]; exact get_map (f := fun p : Str × Int => p.1) hz
      have hpos := ok.pos z (List.mem_of_getElem? hz)
      refine ⟨T0, _, rfl, SqT.of eT, rfl, _, _, rfl, _, _, rfl, rfl, ?_⟩
      refine ⟨_, rfl, .ref za, .ty "tuple", .type "tuple", .type "tuple", true, rfl, .ty _, .base (.tup ez2), kit_ty (by decide +kernel), true, rfl, iteF ⟨_, rfl, za, _, rfl, .inr (SqT.of ez2), rfl, _, rfl, iteDN (fun c => absurd rfl c) (fun _ => ?_)⟩⟩
      refine ⟨_, rfl, za, _, 0, _, rfl, rfl, SqT.of ez2, rfl, _, rfl, _, rfl, na, _, _, .str z.1, rfl, rfl, SqL.of (q2 _ _ en), atI_nat (get_map hnm), rfl, _, rfl, iteDN (fun c => absurd rfl c) (fun _ => ?_)⟩
      refine ⟨_, rfl, za, _, 0, _, rfl, rfl, SqT.of ez2, rfl, .str z.1, .ty "str", .type "str", .type "str", true, rfl, .ty _, .base (.str z.1), kit_ty (by decide +kernel), true, rfl, iteF ⟨_, rfl, za, _, 1, _, rfl, rfl, SqT.of ez2, rfl, z.2, rfl, true, rfl, iteF ⟨_, rfl, za, _, 1, _, rfl, rfl, SqT.of ez2, rfl, _, _, rfl, rfl, _, rfl, iteD (fun c => ?_) (fun _ => ?_)⟩⟩⟩
      · have c : z.2 < 1 := c
        omega
      · exact ⟨_, _, rfl, q2⟩
    · rintro σ H' ⟨_, _, rfl, q⟩
      exact k _ q
-- is_pair: slots 0 thing, 1 names*, 2 one
abbrev S_is_pair : Stmt := (topS 22)
abbrev N_is_pair : List Str := ["thing", "names", "one"]
theorem sc_is_pair : FnScope N_is_pair ["thing", "names"] (defScope S_is_pair) := ⟨rfl, rfl, rfl, by decide +kernel, rfl, by decide +kernel, by decide +kernel⟩
def sp_ispair : Sp := fun vs H Q _ => ∃ (v : V) (na : Addr) (p : St0 × St0) (nm : List Str), vs = [v, .ref na] ∧ Tp H v (dPr p) ∧ H na = some (.lst (nm.map V.str)) ∧ OkP nm p ∧ ∀ H', Same H H' → Q (.bl true) H'
theorem ok_ispair {f : Addr} {fd : FuncData} (F : Fun K "is_pair" "is_pair" S_is_pair f fd) (T : Txt K mg C) (Dis_standing : Fd P w K mg base CX0 2 "is_standing" f1 fd1 ["thing", "names"] sp_stnd) : FnOk P w K mg base CX0 3 f fd ["thing", "names"] sp_ispair := by
  refine F.ok sc_is_pair (fun vs H Q E h => ?_) (fun cdv A outer s H vs Q E hr h => ?_)
  · obtain ⟨v, na, p, nm, rfl, _⟩ := h
    rfl
  · obtain ⟨v, na, p, nm, rfl, tv, en, ok, k⟩ := h
    obtain ⟨pa, v1, v2, rfl, ep, t1, t2⟩ := tp_pr tv
    refine ⟨_, (pss_one (ps_ret (pe_and (pe_callB call_isi (by rfl) T.b_isinstance (by decide +kernel) (pa_cons (pv 0) (pa_cons (pe_bltn (v := .ty "tuple") (by rfl) T.b_tuple (by decide +kernel) rfl) pa_nil))) (pe_and (pe_cmpR op_eq (pe_callB call_len_seq (by rfl) T.b_len PySem.boot_len (pa_cons (pv 0) pa_nil)) pe_int (nomark _)) (pe_one (pe_callB (cr_all rfl) (by rfl) T.b_all (by decide +kernel) (pa_cons (pe_lc (own := [("one", 2)]) (g := (gName 2)) (tt := tYes) rfl sc_is_pair.nd (pi_tup (pv 0)) (blkOk_by (own := [("one", 2)]) (N := N_is_pair) (sc := defScope S_is_pair) (by decide +kernel)) (fun _ _ _ _ _ => (pg_name (i := 2) sc_is_pair.nd rfl (Or.inl rfl))) (fun _ _ _ _ _ => pts_nil) (fun _ _ _ _ _ => (pe_call Dis_standing.ok (hr.mono (by decide)) rfl Dis_standing.m Dis_standing.kp Dis_standing.b .nil pass0 (pa_cons (pv 2) (pa_cons (pv 1) pa_nil))))) pa_nil))))))), ?_⟩
    refine ⟨_, rfl, .ref pa, .ty "tuple", .type "tuple", .type "tuple", true, rfl, .ty _, .base (.tup ep), kit_ty (by decide +kernel), true, rfl, iteT ⟨_, rfl, pa, _, rfl, .inr (SqT.of ep), rfl, _, rfl, iteD (fun _ => ?_) (fun c => absurd rfl c)⟩⟩
    refine ⟨_, rfl, pa, rfl, ⟨_, SqT.of ep⟩, fun D hD => lc_tup (K := K) (a := pa) (xs := [v1, v2]) (fun i H' => H' D = some (.lst ((List.replicate i true).map V.bl)) ∧ Same H H') ⟨upd_same, same_newK (fun _ _ h => h) hD⟩ ?_ ?_ ?_⟩
    · rintro i H' _ ⟨_, q⟩
      exact SqT.of (q _ _ ep)
    · rintro i x H' hi ⟨g1, g2⟩
      obtain ⟨s, ts, oks, hi2⟩ : ∃ s : St0, Tp H x (dSt s) ∧ OkS nm s ∧ i < 2 := by
        match i, hi with
        | 0, hi =>
          cases Option.some.inj hi
          exact ⟨p.1, t1, ok.a, by omega⟩
        | 1, hi =>
          cases Option.some.inj hi
          exact ⟨p.2, t2, ok.b, by omega⟩
        | i + 2, hi => simp at hi
      refine ⟨rfl, _, rfl, _, rfl, x, na, s, nm, rfl, ts.mono (tx_same g2), g2 _ _ en, oks, fun H2 q => ⟨_, q _ _ g1, ?_, ?_, same_upd (g2.trans q) hD⟩⟩
      · rw [List.length_map, List.length_replicate]; exact small1000 (by omega)
      · rw [upd_same, List.replicate_succ', List.map_append]; rfl
    · rintro H' ⟨g1, g2⟩
      exact ⟨D, _, rfl, SqL.of g1, k _ g2⟩
theorem nodup_take {α : Type} {l : List α} (nd : l.Nodup) {i : Nat} {x : α} (h : l[i]? = some x) : x ∉ l.take i := by
  intro hm
  obtain ⟨j, hj⟩ := List.getElem?_of_mem hm
  have hji : j < i := by
    have := (List.getElem?_eq_some_iff.mp hj).1
    rw [List.length_take] at this
    omega
  rw [List.getElem?_take_of_lt hji] at hj
  obtain ⟨h1, e1⟩ := List.getElem?_eq_some_iff.mp hj
  obtain ⟨h2, e2⟩ := List.getElem?_eq_some_iff.mp h
  exact (List.pairwise_iff_getElem.mp nd) j i h1 h2 hji (e1.trans e2.symm)
-- are_pairs: slots 0 one, 1 first, 2 other, 3 second, 4 strokes, 5 thing, 6 heard, 7 names*, 8 there, 9 pair, 10 stroke, 11 behind, 12 name, 13 rest
abbrev S_are_pairs : Stmt := (topS 23)
abbrev N_are_pairs : List Str := ["one", "first", "other", "second", "strokes", "thing", "heard", "names", "there", "pair", "stroke", "behind", "name", "rest"]
theorem sc_are_pairs : FnScope N_are_pairs ["one", "first", "other", "second", "strokes", "thing", "heard"] (defScope S_are_pairs) := ⟨rfl, rfl, rfl, by decide +kernel, rfl, by decide +kernel, by decide +kernel⟩
def sp_are (C : Addr) : Sp := fun vs H Q _ => ∃ (p1 p2 sa L : Addr) (v1 v2 : V) (r1 r2 : List Int) (p : St0 × St0) (l : List (Addr × List Str)) (nm : List Str) (hd : Bool) (ws : List V) (ps : List (St0 × St0)), vs = [.ref p1, v1, .ref p2, v2, .ref sa, .ref L, .bl hd] ∧ BookAt C H p1 r1 ∧ BookAt C H p2 r2 ∧ Tp H v1 (dSt p.1) ∧ Tp H v2 (dSt p.2) ∧ SS H sa l ∧ OkR nm r1 ∧ OkR nm r2 ∧ H L = some (.lst ws) ∧ TpA H ws (ps.map dPr) ∧
  ps.Nodup ∧ p ∈ ps ∧ ps.length ≤ 200 ∧ (∀ q ∈ ps, OkP nm q) ∧ (∀ q ∈ ps, ∀ st ∈ l.map (·.2), ∃ q', nxP r1 r2 hd q st = some q' ∧ q' ∈ ps) ∧ ∀ H', Same H H' → Q (.bl true) H'
theorem ok_are {f : Addr} {fd : FuncData} (F : FunD K "are_pairs" "are_pairs" (defArgs S_are_pairs) (defBody S_are_pairs) (defScope S_are_pairs) [] [] f fd) (T : Txt K mg C) (Dis_pair : Fd P w K mg base CX0 3 "is_pair" f1 fd1 ["thing", "names"] sp_ispair)
    (Dboth_behind : Fd P w K mg base CX0 6 "both_behind" f2 fd2 ["one", "other", "pair", "stroke", "heard"] (sp_both C)) : FnOk P w K mg base CX0 7 f fd ["one", "first", "other", "second", "strokes", "thing", "heard"] (sp_are C) := by
  refine F.ok sc_are_pairs (fun vs H Q E h => ?_) (fun cdv A outer s H vs Q E hr h => ?_)
  · obtain ⟨p1, p2, sa, L, v1, v2, r1, r2, p, l, nm, hd, ws, ps, rfl, _⟩ := h
    rfl
  · obtain ⟨p1, p2, sa, L, v1, v2, r1, r2, p, l, nm, hd, ws, ps, rfl, bk1, bk2, t1, t2, S, R1, R2, eL, tws, nd, hp, few, okp, cl, k⟩ := h
    obtain ⟨ta, xs, rfl, et, tx⟩ := tp_st t1
    have lx : xs.length = p.1.length := by rw [tx.length, List.length_map]
    have lw : ws.length = ps.length := by rw [tws.length, List.length_map]
    have okpp := okp p hp
    have n40 := R1.nm40
    have lp := okpp.a.length
    refine ⟨_, (pss_cons (ps_set (i := 7) sc_are_pairs.nd rfl (Or.inr rfl) (pe_lc (own := [("name", 12), ("rest", 13)]) (g := (gTup K 2 (gCons (gName 12) (gCons (gName 13) gNil)))) (tt := tYes) rfl sc_are_pairs.nd (pi_tup (pv 1)) (blkOk_by (own := [("name", 12), ("rest", 13)]) (N := N_are_pairs) (sc := defScope S_are_pairs) (by decide +kernel)) (fun _ _ _ _ _ => (by exact (pg_tupK (K := K) rfl rfl (pgs_cons (pg_name (i := 12) sc_are_pairs.nd rfl (Or.inl rfl)) (pgs_cons (pg_name (i := 13) sc_are_pairs.nd rfl (Or.inl rfl)) pgs_nil))))) (fun _ _ _ _ _ => pts_nil) (fun _ _ _ _ _ => (pv 12))))
      (pss_cons (ps_if (PW.pt (pw_or (pt_not (pt_val (pe_callB call_isi (by rfl) T.b_isinstance (by decide +kernel) (pa_cons (pv 5) (pa_cons (pe_bltn (v := .ty "list") (by rfl) T.b_list (by decide +kernel) rfl) pa_nil))))) (pw_or1 (pt_not (pt_val (pe_callB (cr_all rfl) (by rfl) T.b_all (by decide +kernel) (pa_cons (pe_lc (own := [("pair", 9)]) (g := (gName 9)) (tt := tYes) rfl sc_are_pairs.nd (pi_list (pv 5)) (blkOk_by (own := [("pair", 9)]) (N := N_are_pairs) (sc := defScope S_are_pairs) (by decide +kernel)) (fun _ _ _ _ _ => (pg_name (i := 9) sc_are_pairs.nd rfl (Or.inl rfl))) (fun _ _ _ _ _ => pts_nil) (fun _ _ _ _ _ => (pe_call Dis_pair.ok (hr.mono (by decide)) rfl Dis_pair.m Dis_pair.kp Dis_pair.b .nil pass0 (pa_cons (pv 9) (pa_cons (pv 7) pa_nil))))) pa_nil))))))) (pss_one (ps_ret pe_bl)) pss_nil)
      (pss_cons (ps_setDcN (i := 8) (own := [("pair", 9)]) (g := (gName 9)) (tt := tYes) hr.units rfl sc_are_pairs.nd rfl rfl (sw_trueD rfl rfl rfl (by decide +kernel)) (pi_list (pv 5)) (blkOk_by (own := [("pair", 9)]) (N := N_are_pairs) (sc := defScope S_are_pairs) (by decide +kernel)) (fun _ _ _ _ _ => (pg_name (i := 9) sc_are_pairs.nd rfl (Or.inl rfl))) (fun _ _ _ _ _ => pts_nil) (fun _ _ _ _ _ => (pv 9)) (fun _ _ _ _ _ => pe_bl))
      (pss_cons (ps_if (PW.pt (pw_or (pt_cmpR op_lt (pe_callB call_lenN (by rfl) T.b_len PySem.boot_len (pa_cons (pv 8) pa_nil)) (pe_callB call_len_seq (by rfl) T.b_len PySem.boot_len (pa_cons (pv 5) pa_nil)) (nomark _)) (pw_or1 (pt_cmpR (op_notInN hr.units) (pe_tup (pa_cons (pv 1) (pa_cons (pv 3) pa_nil))) (pv 8) (by rfl))))) (pss_one (ps_ret pe_bl)) pss_nil)
      (pss_cons (ps_for (passes_of rfl) rfl (pi_list (pv 5)) (pg_name (i := 9) sc_are_pairs.nd rfl (Or.inl rfl))
        (pss_one (ps_for (passes_of rfl) rfl (pi_list (pv 4)) (pg_name (i := 10) sc_are_pairs.nd rfl (Or.inl rfl))
          (pss_cons (ps_set (i := 11) sc_are_pairs.nd rfl (Or.inl rfl) (pe_call Dboth_behind.ok (hr.mono (by decide)) rfl Dboth_behind.m Dboth_behind.kp Dboth_behind.b .nil pass0 (pa_cons (pv 0) (pa_cons (pv 2) (pa_cons (pv 9) (pa_cons (pv 10) (pa_cons (pv 6) pa_nil)))))))
          (pss_one (ps_if (PW.pt (pw_or (pt_cmpR op_isN (pv 11) pe_non (nomark _)) (pw_or1 (pt_cmpR (op_notInN hr.units) (pv 11) (pv 8) (by rfl))))) (pss_one (ps_ret pe_bl)) pss_nil))))))
      (pss_one (ps_ret pe_bl))))))), ?_⟩
    refine ⟨_, rfl, ta, rfl, ⟨_, SqT.of et⟩, fun D hD => lc_tup (K := K) (a := ta) (xs := xs) (fun i H' => H' D = some (.lst (((p.1.take i).map (·.1)).map V.str)) ∧ Same H H') ⟨upd_same, same_newK (fun _ _ h => h) hD⟩ ?_ ?_ ?_⟩
    · rintro i H' _ ⟨_, q⟩
      exact SqT.of (q _ _ et)
    · rintro i x H1 hi ⟨g1, g2⟩
      obtain ⟨z, hz, tz⟩ := tpa_item tx hi
      obtain ⟨za, rfl, ez⟩ := tp_sl tz
      have hil : i < p.1.length := (List.getElem?_eq_some_iff.mp hz).1
      refine ⟨za, _, rfl, SqT.of (g2 _ _ ez), rfl, _, _, rfl, _, _, rfl, rfl, rfl, _, rfl, _, g1, ?_, ?_, same_upd g2 hD⟩
      · rw [List.length_map, List.length_map, List.length_take]; exact small1000 (by omega)
      · rw [upd_same, take_succ hz, List.map_append, List.map_append]; rfl
    · rintro H1 ⟨g1, s1⟩
      rw [lx, List.take_length, okpp.a.nm] at g1
      have eL1 := s1 _ _ eL
      -- isinstance(thing, list), all of them pairs
      refine ⟨_, rfl, .ref L, .ty "list", .type "list", .type "list", true, rfl, .ty _, .base (.lst eL1), kit_ty (by decide +kernel), true, rfl, iteF ?_⟩
      refine ⟨_, rfl, L, rfl, ⟨_, SqL.of eL1⟩, fun D2 hD2 => lc_list (K := K) (a := L) (xs := ws) (fun i H' => H' D2 = some (.lst ((List.replicate i true).map V.bl)) ∧ Same H1 H') ⟨upd_same, same_newK (fun _ _ h => h) hD2⟩ ?_ ?_ ?_⟩
      · rintro i H' _ ⟨_, q⟩
        exact SqL.of (q _ _ eL1)
      · rintro i x H2 hi ⟨q1, q2⟩
        obtain ⟨z, hz, tz⟩ := tpa_item tws hi
        have hil : i < ps.length := (List.getElem?_eq_some_iff.mp hz).1
        refine ⟨rfl, _, rfl, _, rfl, x, D, z, nm, rfl, (tz.mono (tx_same s1)).mono (tx_same q2), q2 _ _ g1, okp z (List.mem_of_getElem? hz), fun H3 q3 => ⟨_, q3 _ _ q1, ?_, ?_, same_upd (q2.trans q3) hD2⟩⟩
        · rw [List.length_map, List.length_replicate]; exact small1000 (by omega)
        · rw [upd_same, List.replicate_succ', List.map_append]; rfl
      · rintro H2 ⟨q1, s2⟩
        refine ⟨D2, _, rfl, SqL.of q1, true, congrArg V.bl (by simp), iteF ?_⟩
        have s12 := s1.trans s2
        have eL2 := s2 _ _ eL1
        -- there
        refine ⟨_, rfl, L, rfl, ⟨_, SqL.of eL2⟩, fun d o hd0 Dn => dcN_it (J := Itl K L) (n := ws.length) (fun i H' => ∃ kvs, DN P w H' d kvs ∧ kvs.map (·.1) = (ps.take i).map kPr ∧ Same H2 H') ⟨[], Dn, by simp, same_newK (fun _ _ h => h) hd0⟩ ?_ ?_ ?_ ?_⟩
        · rintro i H' hi ⟨_, _, _, q⟩
          exact ⟨ws, ws[i], SqL.of (q _ _ eL2), List.getElem?_eq_getElem hi⟩
        · rintro H' ⟨_, _, _, q⟩
          exact ⟨ws, SqL.of (q _ _ eL2), Nat.le_refl _⟩
        · rintro i H3 hi ⟨kvs, Dk, hk, q⟩ x H4 ⟨rfl, hx⟩
          have hx := hx ws (SqL.of (q _ _ eL2))
          obtain ⟨z, hz, tz⟩ := tpa_item tws hx
          obtain ⟨za, w1, w2, rfl, _⟩ := tp_pr tz
          have hil : i < ps.length := (List.getElem?_eq_some_iff.mp hz).1
          have lk : kvs.length = i := by
            have := congrArg List.length hk
            rw [List.length_map, List.length_map, List.length_take] at this
            omega
          have hnone : valV kvs (kPr z) = none := by
            cases e0 : valV kvs (kPr z) with
            | none => rfl
            | some u =>
              have hm := valV_in e0
              rw [hk] at hm
              obtain ⟨y, hy, ey⟩ := List.mem_map.mp hm
              have := kPr_inj ey
              subst this
              exact absurd hy (nodup_take nd hz)
          refine ⟨rfl, _, rfl, za, kPr z, kvs, rfl, Dk, by rw [lk]; exact small1000 (by omega), ?_, Nat.le_trans (depth_pr _) (by decide), fun o' Dk' => ⟨_, Dk', ?_, same_upd q hd0⟩⟩
          · rw [data_pr]; exact (tz.mono (tx_same s12)).mono (tx_same q)
          · rw [putK_new _ hnone, List.map_append, hk, take_succ hz, List.map_append]; rfl
        · rintro H3 ⟨kvs, Dk, hk, s3⟩
          rw [lw, List.take_length] at hk
          have lk : kvs.length = ps.length := by
            have := congrArg List.length hk
            rw [List.length_map, List.length_map] at this
            exact this
          have isk : ∀ q ∈ ps, (valV kvs (kPr q)).isSome = true := fun q hq => by
            rw [← valV_any, List.any_eq_true]
            have : kPr q ∈ kvs.map (·.1) := by rw [hk]; exact List.mem_map_of_mem hq
            obtain ⟨kv, hkv, e⟩ := List.mem_map.mp this
            exact ⟨kv, hkv, decide_eq_true e⟩
          have s123 := s12.trans s3
          have eL3 := s3 _ _ eL2
          refine ⟨_, rfl, d, kvs, rfl, Dk, _, rfl, L, _, rfl, .inl (SqL.of eL3), _, _, rfl, rfl, _, rfl, iteD (fun c => ?_) (fun _ => ?_)⟩
          · rw [lk, lw] at c
            exact absurd c (Int.lt_irrefl _)
          refine ⟨_, rfl, _, rfl, (by show 2 ≤ sizeLine; decide), fun t ht => ?_⟩
          have s4 := same_newK s123 (o := .tup [.ref ta, v2]) ht
          have Dk4 := Dk.same (same_newK (fun _ _ h => h : Same H3 H3) (o := .tup [.ref ta, v2]) ht)
          have tpt : Tp (upd H3 t (.tup [.ref ta, v2])) (.ref t) (dPr p) := tp_pr_of upd_same (t1.mono (tx_same s4)) (t2.mono (tx_same s4))
          refine ⟨_, rfl, t, d, kPr p, kvs, rfl, rfl, Dk4, by rw [data_pr]; exact tpt, Nat.le_trans (depth_pr _) (by decide), _, rfl, iteB (fun c => ?_) (fun _ => ?_)⟩
          · have c : (!(valV kvs (kPr p)).isSome) = true := c
            rw [isk p hp] at c; cases c
          have eL4 := s4 _ _ eL
          generalize hH4 : upd H3 t (.tup [.ref ta, v2]) = H4 at s4 Dk4 eL4
          clear hH4 tpt
          refine ⟨_, rfl, L, rfl, ⟨_, SqL.of eL4⟩, for_list (K := K) (a := L) (xs := ws) (fun i σ H' => ∃ v9 v10 v11 : Option V, σ = [some (.ref p1), some (.ref ta), some (.ref p2), some v2, some (.ref sa), some (.ref L), some (.bl hd), some (.ref D), some (.ref d), v9, v10, v11, none, none] ∧ Same H4 H') ⟨_, _, _, rfl, fun _ _ h => h⟩ ?_ ?_ ?_⟩
          · rintro i σ H' _ ⟨_, _, _, rfl, q⟩
            exact SqL.of (q _ _ eL4)
          · rintro i x σ H5 hi ⟨v9, v10, v11, rfl, s5⟩
            obtain ⟨z, hz, tz⟩ := tpa_item tws hi
            have hzm := List.mem_of_getElem? hz
            refine ⟨_, rfl, sa, rfl, ⟨_, SqL.of (S.same (s4.trans s5)).1⟩, for_list (K := K) (a := sa) (xs := l.map fun q => V.ref q.1) (fun j σ H' => ∃ v10 v11 : Option V, σ = [some (.ref p1), some (.ref ta), some (.ref p2), some v2, some (.ref sa), some (.ref L), some (.bl hd), some (.ref D), some (.ref d), some x, v10, v11, none, none] ∧ Same H4 H') ⟨_, _, rfl, s5⟩ ?_ ?_ ?_⟩
            · rintro j σ H' _ ⟨_, _, rfl, q⟩
              exact SqL.of (S.same (s4.trans q)).1
            · rintro j y σ H6 hj ⟨v10, v11, rfl, s6⟩
              obtain ⟨q, hq, rfl⟩ := map_get hj
              have hqm := List.mem_of_getElem? hq
              obtain ⟨q', hn', hq'⟩ := cl z hzm q.2 (List.mem_map_of_mem hqm)
              have s46 := s4.trans s6
              refine ⟨_, rfl, _, rfl, _, rfl, _, rfl, _, rfl, p1, p2, q.1, x, r1, r2, z, q.2, nm, hd, rfl, bk1.same s46, bk2.same s46, tz.mono (tx_same s46), (S.same s46).2 q hqm, R1, R2, okp z hzm, fun hn => (by rw [hn'] at hn; cases hn), fun q2 hs H7 v' s7 tv' => ?_⟩
              have : q2 = q' := by rw [hn'] at hs; exact (Option.some.inj hs).symm
              subst this
              obtain ⟨va, u1, u2, rfl, _⟩ := tp_pr tv'
              refine ⟨_, rfl, rfl, _, rfl, iteD (fun c => nomatch c) (fun _ => ?_)⟩
              refine ⟨_, rfl, _, rfl, va, d, kPr q2, kvs, rfl, rfl, Dk4.same (s6.trans s7), by rw [data_pr]; exact tv', Nat.le_trans (depth_pr _) (by decide), _, rfl, iteB (fun c => ?_) (fun _ => ?_)⟩
              · have c : (!(valV kvs (kPr q2)).isSome) = true := c
                rw [isk q2 hq'] at c; cases c
              · exact ⟨_, _, rfl, s6.trans s7⟩
            · rintro σ H' ⟨_, _, rfl, q⟩
              exact ⟨_, _, _, rfl, q⟩
          · rintro σ H' ⟨_, _, _, rfl, q⟩
            exact k _ (s4.trans q)
end
end L2.K83

set_option Elab.async false
set_option linter.all false
set_option maxRecDepth 100000
set_option maxHeartbeats 4000000
/-! The program: groups, wishes. -/
namespace L2.K83
open PySem PySem.Spec PyProof.Rows L2.KB
section
variable {P : Program} {w : World} {K : PySem.W.Frag} {mg : Str → Option Value} {base : Heap} {C CT CS fI : Addr} {f1 f2 f3 f4 f5 : Addr} {fdI fd1 fd2 fd3 fd4 fd5 : FuncData}
-- groups_of: slots 0 standing, 1 found*, 2 name, 3 rest
abbrev S_groups_of : Stmt := (topS 15)
abbrev N_groups_of : List Str := ["standing", "found", "name", "rest"]
theorem sc_groups_of : FnScope N_groups_of ["standing"] (defScope S_groups_of) := ⟨rfl, rfl, rfl, by decide +kernel, rfl, by decide +kernel, by decide +kernel⟩
def sp_groups : Sp := fun vs H Q _ => ∃ (v : V) (s : St0), vs = [v] ∧ Tp H v (dSt s) ∧ s.length ≤ 40 ∧ ∀ (H' : Hp) (p : Addr) (xs : List V), Same H H' → H' p = some (.lst xs) → Q (.ref p) H'
theorem ok_groups {f : Addr} {fd : FuncData} (F : Fun K "groups_of" "groups_of" S_groups_of f fd) (T : Txt K mg C) : FnOk P w K mg base CX0 1 f fd ["standing"] sp_groups := by
  refine F.ok sc_groups_of (fun vs H Q E h => ?_) (fun cdv A outer s H vs Q E hr h => ?_)
  · obtain ⟨v, s, rfl, _⟩ := h
    rfl
  · obtain ⟨v, s, rfl, tv, ls, k⟩ := h
    obtain ⟨ta, xs, rfl, et, tx⟩ := tp_st tv
    have lx : xs.length = s.length := by rw [tx.length, List.length_map]
    refine ⟨_, (pss_cons (ps_set (i := 1) sc_groups_of.nd rfl (Or.inr rfl) pe_dnewK)
      (pss_cons (ps_for PassesOwn.never rfl (pi_tup (pv 0)) (pg_tup rfl (pgs_cons (pg_name (i := 2) sc_groups_of.nd rfl (Or.inl rfl)) (pgs_cons (pg_name (i := 3) sc_groups_of.nd rfl (Or.inl rfl)) pgs_nil)))
        (pss_one (ps_expr (pe_bm PySem.F.plainAttrs_list PySem.F.slot_list_append PySem.F.type_list_append mt_append (pe_dsetd (pv 1) (pv 3) (pe_lst pa_nil) (by exact ⟨rfl, rfl, rfl, rfl⟩)) (pa_cons (pv 2) pa_nil)))))
      (pss_one (ps_ret (pe_lc (own := [("rest", 3)]) (g := (gName 3)) (tt := tYes) rfl sc_groups_of.nd (pi_list (pe_callB (call_sortedDI rfl) (by rfl) T.b_sorted (by decide +kernel) (pa_cons (pv 1) pa_nil))) (blkOk_by (own := [("rest", 3)]) (N := N_groups_of) (sc := defScope S_groups_of) (by decide +kernel)) (fun _ _ _ _ _ => (pg_name (i := 3) sc_groups_of.nd rfl (Or.inl rfl))) (fun _ _ _ _ _ => pts_nil) (fun _ _ _ _ _ => (pe_tup (pa_cons (pv 3) (pa_cons (pe_callTy (call_tuple_ofK (K := K) rfl) (by rfl) T.b_tuple (by decide +kernel) (pa_cons (pe_dget (hu_of hr) (pv 1) (pv 3) (fun _ _ => rfl)) pa_nil)) pa_nil))))))))), ?_⟩
    refine fun d hd => ?_
    refine ⟨_, rfl, ta, rfl, ⟨_, SqT.of (same_newK (fun _ _ h => h : Same H H) hd _ _ et)⟩, for_tup (K := K) (a := ta) (xs := xs) (fun i σ H' => ∃ (ks : List Int) (kvs : List (Key × V)) (v2 v3 : Option V), σ = [some (.ref ta), some (.ref d), v2, v3] ∧ Same H H' ∧ H' d = some (.dK kvs) ∧ kvs.map (·.1) = ks.map Sum.inl ∧ kvs.length ≤ i ∧ ∀ kv ∈ kvs, ∃ a ys, kv.2 = .ref a ∧ H a = none ∧ H' a = some (.lst ys) ∧ ys.length ≤ i) ?_ ?_ ?_ ?_⟩
    · exact ⟨[], [], none, none, rfl, same_newK (fun _ _ h => h) hd, upd_same, rfl, Nat.le_refl _, (by intro kv hkv; cases hkv)⟩
    · rintro i σ H' _ ⟨_, _, _, _, rfl, q, _⟩
      exact SqT.of (q _ _ et)
    · rintro i x σ H1 hi ⟨ks, kvs, v2, v3, rfl, s1, e1, e2, e3, e4⟩
      obtain ⟨z, hz, tz⟩ := tpa_item tx hi
      obtain ⟨za, rfl, ez⟩ := tp_sl tz
      have hil : i < s.length := (List.getElem?_eq_some_iff.mp hz).1
      refine ⟨za, _, rfl, SqT.of (s1 _ _ ez), rfl, _, _, rfl, _, _, rfl, rfl, ?_⟩
      refine ⟨_, rfl, d, rfl, .inl ⟨kvs, .inl e1⟩, _, rfl, (by show 0 ≤ sizeLine; decide), fun e he => ?_⟩
      have s2 := same_newK s1 (o := .lst []) he
      have nde := ne_of_none e1 he
      have e1' : (upd H1 e (.lst [])) d = some (.dK kvs) := by rw [upd_ne nde]; exact e1
      have old : ∀ kv ∈ kvs, ∃ a ys, kv.2 = .ref a ∧ H a = none ∧ (upd H1 e (.lst [])) a = some (.lst ys) ∧ ys.length ≤ i := fun kv hkv => by
        obtain ⟨a, ys, q1, q2, q3, q4⟩ := e4 kv hkv
        exact ⟨a, ys, q1, q2, by rw [upd_ne (ne_of_none q3 he)]; exact q3, q4⟩
      refine ⟨kvs, Sum.inl z.2, e1', rfl, small1000 (by omega), fun v hv => ?_, fun hv => ?_⟩
      · obtain ⟨kv, hkv, ekv⟩ : ∃ kv ∈ kvs, kv.2 = v := by
          unfold valV at hv
          obtain ⟨kv, h1, h2⟩ := Option.map_eq_some_iff.mp hv
          exact ⟨kv, List.mem_of_find?_eq_some h1, h2⟩
        obtain ⟨a, ys, q1, q2, q3, q4⟩ := old kv hkv
        rw [ekv] at q1
        subst q1
        have nda : d ≠ a := ne_of e1' q3 (by intro z; cases z)
        refine ⟨.inl ⟨rfl, _, SqL.of q3⟩, _, rfl, a, _, _, rfl, rfl, q3, small1000 (by omega), ks, kvs, _, _, rfl, same_upd s2 q2, by rw [upd_ne nda]; exact e1', e2, by omega, fun kv' hkv' => ?_⟩
        obtain ⟨a', ys', r1, r2, r3, r4⟩ := old kv' hkv'
        by_cases haa : a' = a
        · subst haa
          rw [q3] at r3
          exact ⟨a', _, r1, r2, upd_same, by rw [List.length_append]; show ys.length + 1 ≤ i + 1; omega⟩
        · exact ⟨a', ys', r1, r2, by rw [upd_ne haa]; exact r3, by omega⟩
      · have ned : e ≠ d := nde.symm
        have q3 : (upd (upd H1 e (.lst [])) d (.dK (putK kvs (Sum.inl z.2) (.ref e)))) e = some (.lst []) := by rw [upd_ne ned]; exact upd_same
        have d0 : H d = none := hd
        have e0 : H e = none := s1.free he
        refine ⟨.inl ⟨rfl, _, SqL.of q3⟩, _, rfl, e, _, _, rfl, rfl, q3, by show 0 < sizeLine; decide, ks ++ [z.2], kvs ++ [(Sum.inl z.2, .ref e)], _, _, rfl, same_upd (same_upd s2 d0) e0, ?_, ?_, ?_, fun kv' hkv' => ?_⟩
        · rw [upd_ne ned.symm, upd_same, putK_new _ hv]
        · rw [List.map_append, List.map_append, e2]; rfl
        · rw [List.length_append]; show kvs.length + 1 ≤ i + 1; omega
        · rcases List.mem_append.mp hkv' with zz | zz
          · obtain ⟨a', ys', r1, r2, r3, r4⟩ := old kv' zz
            have n1 : a' ≠ d := ne_of r3 e1' (by intro z; cases z)
            by_cases haa : a' = e
            · subst haa
              obtain ⟨b, ys2, t1, t2, t3, t4⟩ := e4 kv' zz
              rw [r1] at t1
              cases t1
              rw [he] at t3; cases t3
            · exact ⟨a', ys', r1, r2, by rw [upd_ne haa, upd_ne n1]; exact r3, by omega⟩
          · have : kv' = (Sum.inl z.2, .ref e) := List.mem_singleton.mp zz
            subst this
            exact ⟨e, _, rfl, e0, upd_same, by show 1 ≤ i + 1; omega⟩
    · rintro σ H1 ⟨ks, kvs, v2, v3, rfl, s1, e1, e2, e3, e4⟩
      have lk : ks.length = kvs.length := by have := congrArg List.length e2; rw [List.length_map, List.length_map] at this; exact this.symm
      refine ⟨_, rfl, d, kvs, ks, rfl, Rd.of e1, e2, by omega, fun ys r pm srt hr0 => ⟨r, rfl, ⟨_, SqL.of upd_same⟩, fun D hD => ?_⟩⟩
      have s2 := same_newK (fun _ _ h => h : Same H1 H1) (o := .lst (ys.map V.int)) hr0
      have ly : ys.length ≤ 40 := by rw [pm.length_eq]; omega
      refine lc_list (K := K) (a := r) (xs := ys.map V.int) (fun i H' => ∃ acc : List V, H' D = some (.lst acc) ∧ acc.length = i ∧ Same H1 H' ∧ H' r = some (.lst (ys.map V.int))) ?_ ?_ ?_ ?_
      · exact ⟨[], upd_same, rfl, same_newK s2 hD, by rw [upd_ne (ne_of_none upd_same hD)]; exact upd_same⟩
      · rintro i H' _ ⟨_, _, _, _, q⟩
        exact SqL.of q
      · rintro i x H2 hi ⟨acc, g1, g2, g3, g4⟩
        obtain ⟨y, hy, rfl⟩ := map_get hi
        have hil : i < ys.length := (List.getElem?_eq_some_iff.mp hy).1
        have hmem : y ∈ ks := pm.mem_iff.mp (List.mem_of_getElem? hy)
        have hkey : (Sum.inl y : Key) ∈ kvs.map (·.1) := by rw [e2]; exact List.mem_map_of_mem hmem
        have hsome : (valV kvs (Sum.inl y : Key)).isSome = true := by
          rw [← valV_any, List.any_eq_true]
          obtain ⟨kv, hkv, e⟩ := List.mem_map.mp hkey
          exact ⟨kv, hkv, decide_eq_true e⟩
        obtain ⟨v, hv⟩ := Option.isSome_iff_exists.mp hsome
        obtain ⟨kv, hkv, ekv⟩ : ∃ kv ∈ kvs, kv.2 = v := by
          unfold valV at hv
          obtain ⟨kv, h1, h2⟩ := Option.map_eq_some_iff.mp hv
          exact ⟨kv, List.mem_of_find?_eq_some h1, h2⟩
        obtain ⟨a, zs, q1, q2, q3, q4⟩ := e4 kv hkv
        rw [ekv] at q1
        subst q1
        refine ⟨rfl, _, rfl, _, rfl, _, rfl, d, .ref a, rfl, .inl ⟨kvs, Sum.inl y, .inl (g3 _ _ e1), rfl, hv.symm⟩, a, _, rfl, .inl ⟨SqL.of (g3 _ _ q3), fun t ht => ⟨(by show 2 ≤ sizeLine; decide), fun u hu => ?_⟩⟩⟩
        have gDt : (upd H2 t (.tup zs)) D = some (.lst acc) := by rw [upd_ne (ne_of_none g1 ht)]; exact g1
        have grt : (upd H2 t (.tup zs)) r = some (.lst (ys.map V.int)) := by rw [upd_ne (ne_of_none g4 ht)]; exact g4
        have s3 := same_newK (same_newK g3 (o := .tup zs) ht) (o := .tup [.int y, .ref t]) hu
        have D0 : H1 D = none := s2.free hD
        have nrD : r ≠ D := ne_of_none upd_same hD
        refine ⟨acc, by rw [upd_ne (ne_of_none gDt hu)]; exact gDt, small1000 (by omega), acc ++ [.ref u], upd_same, by rw [List.length_append, g2]; rfl, same_upd s3 D0, ?_⟩
        rw [upd_ne nrD, upd_ne (ne_of_none grt hu)]; exact grt
      · rintro H2 ⟨acc, g1, g2, g3, g4⟩
        exact k _ D acc (s1.trans g3) g1
-- meets: slots 0 standing, 1 wish, 2 word, 3 what*, 4 rests, 5 name, 6 rest
abbrev S_meets : Stmt := (topS 27)
abbrev N_meets : List Str := ["standing", "wish", "word", "what", "rests", "name", "rest"]
theorem sc_meets : FnScope N_meets ["standing", "wish"] (defScope S_meets) := ⟨rfl, rfl, rfl, by decide +kernel, rfl, by decide +kernel, by decide +kernel⟩
def sp_meets : Sp := fun vs H Q _ => ∃ (v : V) (wt : Addr) (s : St0) (n : Int), vs = [v, .ref wt] ∧ Tp H v (dSt s) ∧ s.length ≤ 40 ∧ H wt = some (.tup [.str "groups", .int n]) ∧ ∀ (H' : Hp) (b : Bool), Same H H' → Q (.bl b) H'
theorem ok_meets {f : Addr} {fd : FuncData} (F : Fun K "meets" "meets" S_meets f fd) (T : Txt K mg C) (Dgroups_of : Fd P w K mg base CX0 1 "groups_of" f1 fd1 ["standing"] sp_groups) : FnOk P w K mg base CX0 2 f fd ["standing", "wish"] sp_meets := by
  refine F.ok sc_meets (fun vs H Q E h => ?_) (fun cdv A outer s H vs Q E hr h => ?_)
  · obtain ⟨v, wt, s, n, rfl, _⟩ := h
    rfl
  · obtain ⟨v, wt, s, n, rfl, tv, ls, ew, k⟩ := h
    refine ⟨_, (pss_cons (ps_asg (pv 1) (pg_tup rfl (pgs_cons (pg_name (i := 2) sc_meets.nd rfl (Or.inl rfl)) (pgs_cons (pg_name (i := 3) sc_meets.nd rfl (Or.inr rfl)) pgs_nil))))
      (pss_cons (ps_if (pt_cmpR op_eq (pv 2) pe_str (nomark _)) (pss_one (ps_ret (pe_cmpR op_eq (pe_callB call_len_seq (by rfl) T.b_len PySem.boot_len (pa_cons (pe_call Dgroups_of.ok (hr.mono (by decide)) rfl Dgroups_of.m Dgroups_of.kp Dgroups_of.b .nil pass0 (pa_cons (pv 0) pa_nil)) pa_nil)) (pv 3) (nomark _)))) pss_nil)
      pss_never)), ?_⟩
    refine ⟨_, rfl, wt, _, rfl, SqT.of ew, rfl, _, _, rfl, _, _, rfl, rfl, ?_⟩
    refine ⟨_, rfl, rfl, _, rfl, iteD (fun _ => ?_) (fun c => absurd rfl c)⟩
    exact ⟨_, rfl, v, s, rfl, tv, ls, fun H' p xs s1 e1 => ⟨p, _, rfl, .inl (SqL.of e1), _, rfl, rfl, k _ _ s1⟩⟩
end
end L2.K83

set_option Elab.async false
set_option linter.all false
set_option maxRecDepth 100000
set_option maxHeartbeats 4000000
/-! The program: the lot of standings. -/
namespace L2.K83
open PySem PySem.Spec PyProof.Rows L2.KB
def scS (r : List Int) (ss : List (List Str)) (s : St0) : List St0 := ss.map fun st => stepS r st s
/-- where a standing's strokes lead, as a list that F is not -/
def WaysV (H : Hp) (F : Addr) (r : List Int) (ss : List (List Str)) (q : St0) (v : V) : Prop := ∃ (wl : Addr) (us : List V), v = .ref wl ∧ wl ≠ F ∧ H wl = some (.lst us) ∧ TpA H us ((scS r ss q).map dSt)
structure WyAt (P : Program) (w : World) (H : Hp) (F W : Addr) (r : List Int) (ss : List (List Str)) (cs : List St0) : Prop where
  ex : ∃ kvs, DN P w H W kvs ∧ kvs.map (·.1) = cs.map kSt ∧ ∀ (i : Nat) (q : St0) (kv : NestedKey × V), cs[i]? = some q → kvs[i]? = some kv → WaysV H F r ss q kv.2
theorem WaysV.same {H H' : Hp} {F : Addr} {r : List Int} {ss : List (List Str)} {q : St0} {v : V} (h : WaysV H F r ss q v) (s : Same H H') : WaysV H' F r ss q v := by
  obtain ⟨wl, us, h1, h2, h3, h4⟩ := h
  exact ⟨wl, us, h1, h2, s _ _ h3, h4.mono (tx_same s)⟩
theorem WyAt.same {P : Program} {w : World} {H H' : Hp} {F W : Addr} {r : List Int} {ss : List (List Str)} {cs : List St0} (h : WyAt P w H F W r ss cs) (s : Same H H') : WyAt P w H' F W r ss cs := by
  obtain ⟨kvs, h1, h2, h3⟩ := h
  exact ⟨kvs, h1.same s, h2, fun i q kv hq hk => (h3 i q kv hq hk).same s⟩
structure LotI (P : Program) (w : World) (H0 H : Hp) (F M W : Addr) (r : List Int) (ss : List (List Str)) (s : St0) (lim : Nat) (nm : List Str) (fs cs : List St0) : Prop where
  le : fs.length ≤ lim
  nd : fs.Nodup
  ok : ∀ q ∈ fs, OkS nm q
  same : Same H0 H
  fl : ∃ ws, H F = some (.lst ws) ∧ TpA H ws (fs.map dSt)
  mt : ∃ kvm, DN P w H M kvm ∧ kvm.map (·.1) = fs.map kSt
  wy : WyAt P w H F W r ss cs
theorem dn_nolst {P : Program} {w : World} {H : Hp} {d a : Addr} {kvs : List (NestedKey × V)} {us : List V} (D : DN P w H d kvs) (h : H a = some (.lst us)) : a ≠ d := fun z => by
  subst z
  obtain ⟨o, h1, _, h2⟩ := D.some
  rw [h] at h1
  exact h2 us (Option.some.inj h1).symm
theorem nodup_takeS {α : Type} {l : List α} (nd : l.Nodup) {i : Nat} {x : α} (h : l[i]? = some x) : x ∉ l.take i := by
  intro hm
  obtain ⟨j, hj⟩ := List.getElem?_of_mem hm
  have hji : j < i := by
    have := (List.getElem?_eq_some_iff.mp hj).1
    rw [List.length_take] at this
    omega
  rw [List.getElem?_take_of_lt hji] at hj
  obtain ⟨h1, e1⟩ := List.getElem?_eq_some_iff.mp hj
  obtain ⟨h2, e2⟩ := List.getElem?_eq_some_iff.mp h
  exact (List.pairwise_iff_getElem.mp nd) j i h1 h2 hji (e1.trans e2.symm)
theorem isSome_keys {kvs : List (NestedKey × V)} {fs : List St0} (h : kvs.map (·.1) = fs.map kSt) (z : St0) : (valV kvs (kSt z)).isSome = decide (z ∈ fs) := by
  rw [← valV_any, Bool.eq_iff_iff, List.any_eq_true, decide_eq_true_iff]
  constructor
  · rintro ⟨kv, hk, e⟩
    have : kv.1 ∈ fs.map kSt := by rw [← h]; exact List.mem_map_of_mem hk
    rw [of_decide_eq_true e] at this
    obtain ⟨y, hy, ek⟩ := List.mem_map.mp this
    rw [← kSt_inj ek]; exact hy
  · intro hm
    have : kSt z ∈ kvs.map (·.1) := by rw [h]; exact List.mem_map_of_mem hm
    obtain ⟨kv, hk, e⟩ := List.mem_map.mp this
    exact ⟨kv, hk, decide_eq_true e⟩
theorem valV_putK_same {kvs : List (NestedKey × V)} {k : NestedKey} {v : V} (h : valV kvs k = none) : valV (putK kvs k v) k = some v := by
  rw [putK_new _ h]
  induction kvs with
  | nil => exact valV_pos rfl
  | cons p kvs ih =>
    by_cases e : p.1 = k
    · rw [valV_pos e] at h; cases h
    · rw [List.cons_append, valV_neg e]
      rw [valV_neg e] at h
      exact ih h
section
variable {P : Program} {w : World} {K : PySem.W.Frag} {mg : Str → Option Value} {base : Heap} {C CT CS fI : Addr} {f1 f2 f3 f4 f5 : Addr} {fdI fd1 fd2 fd3 fd4 fd5 : FuncData}
-- lot_of: slots 0 book*, 1 standing, 2 strokes, 3 most, 4 found, 5 met, 6 ways, 7 here*, 8 there, 9 stroke
abbrev S_lot_of : Stmt := (topS 28)
abbrev N_lot_of : List Str := ["book", "standing", "strokes", "most", "found", "met", "ways", "here", "there", "stroke"]
theorem sc_lot_of : FnScope N_lot_of ["book", "standing", "strokes", "most"] (defScope S_lot_of) := ⟨rfl, rfl, rfl, by decide +kernel, rfl, by decide +kernel, by decide +kernel⟩
def sp_lot (P : Program) (w : World) (C CT : Addr) : Sp := fun vs H Q E => ∃ (p sa : Addr) (v : V) (r : List Int) (s : St0) (l : List (Addr × List Str)) (nm : List Str) (most : Int), vs = [.ref p, v, .ref sa, .int most] ∧ BookAt C H p r ∧ Tp H v (dSt s) ∧ SS H sa l ∧ OkR nm r ∧ OkS nm s ∧ l.length ≤ 8 ∧ 1 ≤ most ∧ most ≤ 200 ∧
  (∀ (d : Option Addr) H', E (.ref CT) d H') ∧
  ∀ (H' : Hp) (F W : Addr) (fs : List St0), Same H H' → WyAt P w H' F W r (l.map (·.2)) fs → fs = KM.bfsN (scS r (l.map (·.2))) s fs.length → fs.Nodup → fs.length ≤ 200 → (∀ q ∈ fs, OkS nm q) → Q (.ref W) H'
theorem ok_lot {f : Addr} {fd : FuncData} (F : Fun K "lot_of" "lot_of" S_lot_of f fd) (T : Txt K mg C) (TM : TMt K mg CT CS fI) (Gtm : FnOk P w K mg base CX0 1 fI fdI ["self", "most"] (sp_tm CT)) (bTm : Binds K fdI ["self", "most"] [])
    (Dcalled : Fd P w K mg base CX0 5 "called" f1 fd1 ["book", "standing", "stroke"] (sp_called C)) :
    FnOk P w K mg base (L2.CX P w) 6 f fd ["book", "standing", "strokes", "most"] (sp_lot P w C CT) := by
  refine F.okX sc_lot_of (fun vs H Q E h => ?_) (fun cdv A outer s H vs Q E hr h => ?_)
  · obtain ⟨p, sa, v, r, s, l, nm, most, rfl, _⟩ := h
    rfl
  · obtain ⟨p, sa, v, r, s, l, nm, most, rfl, bk, tv, S, R, ok, l8, m1, m2, kE, k⟩ := h
    obtain ⟨ta, xs0, rfl, et0, tx0⟩ := tp_st tv
    refine ⟨_, (pss_cons (ps_set (i := 4) sc_lot_of.nd rfl (Or.inl rfl) (pe_lst (pa_cons (pv 1) pa_nil)))
      (pss_cons (ps_set (i := 5) sc_lot_of.nd rfl (Or.inl rfl) (pe_disp1 hr.units (pv 1) pe_bl))
      (pss_cons (ps_set (i := 6) sc_lot_of.nd rfl (Or.inl rfl) pe_dnewN)
      (pss_cons (ps_while (passes_of rfl) (pt_cmpR op_lt (pe_callB call_lenN (by rfl) T.b_len PySem.boot_len (pa_cons (pv 6) pa_nil)) (pe_callB call_len_seq (by rfl) T.b_len PySem.boot_len (pa_cons (pv 4) pa_nil)) (nomark _))
        (pss_cons (ps_set (i := 7) sc_lot_of.nd rfl (Or.inr rfl) (pe_ix ix_list (pv 4) (pe_callB call_lenN (by rfl) T.b_len PySem.boot_len (pa_cons (pv 6) pa_nil)) (fun _ _ => rfl)))
        (pss_cons (ps_asg (pe_lc (own := [("stroke", 9)]) (g := (gName 9)) (tt := tYes) rfl sc_lot_of.nd (pi_list (pv 2)) (blkOk_by (own := [("stroke", 9)]) (N := N_lot_of) (sc := defScope S_lot_of) (by decide +kernel)) (fun _ _ _ _ _ => (pg_name (i := 9) sc_lot_of.nd rfl (Or.inl rfl))) (fun _ _ _ _ _ => pts_nil) (fun _ _ _ _ _ => (pe_ix (ix_tupK (K := K) rfl) (pe_call Dcalled.ok (hr.mono (by decide)) rfl Dcalled.m Dcalled.kp Dcalled.b .nil pass0 (pa_cons (pv 0) (pa_cons (pv 7) (pa_cons (pv 9) pa_nil)))) pe_int (fun _ _ => rfl)))) (pg_sub (pv 6) (pv 7) (set_N hr.units)))
        (pss_cons (ps_for (passes_of rfl) rfl (pi_list (pe_ix (ix_N hr.units) (pv 6) (pv 7) (fun _ _ => rfl))) (pg_name (i := 8) sc_lot_of.nd rfl (Or.inl rfl))
          (pss_one (ps_if (pt_cmpR (op_notInN hr.units) (pv 8) (pv 5) (by rfl)) (pss_cons (ps_asg pe_bl (pg_sub (pv 5) (pv 8) (set_N hr.units)))
            (pss_one (ps_expr (pe_bm PySem.F.plainAttrs_list PySem.F.slot_list_append PySem.F.type_list_append mt_append (pv 4) (pa_cons (pv 8) pa_nil))))) pss_nil)))
        (pss_one (ps_if (pt_cmpR op_gt (pe_callB call_len_seq (by rfl) T.b_len PySem.boot_len (pa_cons (pv 4) pa_nil)) (pv 3) (nomark _)) (pss_one (ps_raise rfl (takes_of rfl rfl rfl rfl) (pmk_oex TM.ox TM.iC TM.tI Gtm (hr.mono (by decide)) bTm .nil pass0 rfl TM.m (pa_cons (pv 3) pa_nil)))) pss_nil))))))
      (pss_one (ps_ret (pv 6))))))), ?_⟩
    refine ⟨_, rfl, (by show 1 ≤ sizeLine; decide), fun Fa hF => ?_⟩
    have sF := same_newK (fun _ _ h => h : Same H H) (o := .lst [.ref ta]) hF
    generalize hH1 : upd H Fa (.lst [.ref ta]) = H1 at sF
    have eF1 : H1 Fa = some (.lst [.ref ta]) := by rw [← hH1]; exact upd_same
    clear hH1
    intro M o1 hM0 Dm0
    have nFM : Fa ≠ M := ne_of_none eF1 hM0
    have sM := same_newK sF (o := o1) hM0
    have M0 : H M = none := sF.free hM0
    refine ⟨_, rfl, ta, kSt s, rfl, Dm0, by rw [data_st]; exact tv.mono (tx_same sM), Nat.le_trans (depth_st _) (by decide), fun o2 Dm => ?_⟩
    have sM2 : Same H (upd (upd H1 M o1) M o2) := same_upd sM M0
    have eF2 : (upd (upd H1 M o1) M o2) Fa = some (.lst [.ref ta]) := by rw [upd_ne nFM, upd_ne nFM]; exact eF1
    generalize hH2 : upd (upd H1 M o1) M o2 = H2 at sM2 eF2 Dm
    clear hH2 Dm0 sM
    intro W o3 hW0 Dw
    have W0 : H W = none := sM2.free hW0
    have nFW : Fa ≠ W := ne_of_none eF2 hW0
    have nMW : M ≠ W := fun z => by
      obtain ⟨o, q, _⟩ := Dm.some
      rw [z, hW0] at q; cases q
    have sW := same_newK sM2 (o := o3) hW0
    have I0 : LotI P w H (upd H2 W o3) Fa M W r (l.map (·.2)) s most.toNat nm [s] [] := by
      refine ⟨by show 1 ≤ most.toNat; omega, by simp, fun q hq => ?_, sW, ⟨[.ref ta], by rw [upd_ne nFW]; exact eF2, .cons (tv.mono (tx_same sW)) .nil⟩, ⟨_, Dm.same (same_newK (fun _ _ h => h) hW0), rfl⟩, ⟨_, Dw, rfl, fun i q kv hq => by simp at hq⟩⟩
      have : q = s := List.mem_singleton.mp hq
      subst this; exact ok
    have F0 : H Fa = none := hF
    clear Dm Dw eF2 eF1 hW0 hM0 sF sM2 sW
    refine ⟨fun m σ H' => ∃ (fs : List St0) (c : Nat) (v7 v8 : Option V), m = 201 - c ∧ c ≤ fs.length ∧ σ = [some (.ref p), some (.ref ta), some (.ref sa), some (.int most), some (.ref Fa), some (.ref M), some (.ref W), v7, v8, none] ∧ fs = KM.bfsN (scS r (l.map (·.2))) s c ∧ LotI P w H H' Fa M W r (l.map (·.2)) s most.toNat nm fs (fs.take c), ⟨201, [s], 0, none, none, rfl, Nat.zero_le _, rfl, rfl, I0⟩, ?_⟩
    clear I0
    rintro m σ H3 ⟨fs, c, v7, v8, rfl, hce, rfl, hbf, I⟩
    obtain ⟨ws, eF, tws⟩ := I.fl
    have lw : ws.length = fs.length := by rw [tws.length, List.length_map]
    obtain ⟨kvw, Dw, hkw, hvw⟩ := I.wy
    have lkw : kvw.length = c := by
      have := congrArg List.length hkw
      rw [List.length_map, List.length_map, List.length_take] at this
      omega
    have lm := I.le
    refine ⟨_, rfl, W, kvw, rfl, Dw, _, rfl, Fa, _, rfl, .inl (SqL.of eF), _, _, rfl, rfl, _, rfl, iteD (fun hc => ?_) (fun hc => ?_)⟩
    · rw [lw, lkw] at hc
      have hc' : c < fs.length := by omega
      have ec : fs[c]? = some fs[c] := List.getElem?_eq_getElem hc'
      generalize hq : fs[c] = q at ec
      obtain ⟨vq, hvq, tvq⟩ := tws.get' (get_map (f := dSt) ec)
      obtain ⟨qa, xq, rfl, eqa, txq⟩ := tp_st tvq
      have okq := I.ok q (List.mem_of_getElem? ec)
      have n40 := R.nm40
      have lq := okq.length
      have lr := R.len
      refine ⟨fun σ' H'' => ∃ m', m' < 201 - c ∧ ∃ (fs : List St0) (c : Nat) (v7 v8 : Option V), m' = 201 - c ∧ c ≤ fs.length ∧ σ' = [some (.ref p), some (.ref ta), some (.ref sa), some (.int most), some (.ref Fa), some (.ref M), some (.ref W), v7, v8, none] ∧ fs = KM.bfsN (scS r (l.map (·.2))) s c ∧ LotI P w H H'' Fa M W r (l.map (·.2)) s most.toNat nm fs (fs.take c), fun σ' H'' z => z, ?_⟩
      refine ⟨_, rfl, _, rfl, W, kvw, rfl, Dw, Fa, _, _, .ref qa, rfl, rfl, SqL.of eF, by rw [lkw]; exact atI_nat hvq, ?_⟩
      refine ⟨_, rfl, sa, rfl, ⟨_, SqL.of (S.same I.same).1⟩, fun D hD => lc_list (K := K) (a := sa) (xs := l.map fun q => V.ref q.1) (fun i H' => ∃ acc : List V, H' D = some (.lst acc) ∧ TpA H' acc (((scS r (l.map (·.2)) q).take i).map dSt) ∧ Same H3 H') ⟨[], upd_same, .nil, same_newK (fun _ _ h => h) hD⟩ ?_ ?_ ?_⟩
      · rintro i H' _ ⟨_, _, _, g⟩
        exact SqL.of (S.same (I.same.trans g)).1
      · rintro i x H4 hi ⟨acc, g1, g2, g3⟩
        obtain ⟨y, hy, rfl⟩ := map_get hi
        have hym := List.mem_of_getElem? hy
        have hil : i < l.length := (List.getElem?_eq_some_iff.mp hy).1
        have hst : (l.map (·.2))[i]? = some y.2 := get_map (f := fun q : Addr × List Str => q.2) hy
        have s04 := I.same.trans g3
        have la : acc.length = i := by
          rw [g2.length, List.length_map, List.length_take]
          unfold scS
          rw [List.length_map, List.length_map]; omega
        refine ⟨rfl, _, rfl, _, rfl, _, rfl, p, y.1, .ref qa, r, q, y.2, rfl, bk.same s04, tvq.mono (tx_same g3), (S.same s04).2 y hym, by omega, by omega, fun H5 t u v' s5 et tv' eu => ⟨t, _, 0, v', rfl, rfl, SqT.of et, rfl, acc, s5 _ _ g1, small1000 (by omega), acc ++ [v'], upd_same, ?_, same_upd (g3.trans s5) hD⟩⟩
        have hsc : (scS r (l.map (·.2)) q)[i]? = some (stepS r y.2 q) := get_map (f := fun st => stepS r st q) hst
        rw [KM.take_snoc hsc, List.map_append]
        exact TpA.snoc ((g2.mono (tx_same s5)).mono (tx_updL (s5 _ _ g1))) (tv'.mono (tx_updL (s5 _ _ g1)))
      · rintro H4 ⟨acc, g1, g2, s4⟩
        rw [List.length_map, List.take_of_length_le (by unfold scS; rw [List.length_map, List.length_map]; exact Nat.le_refl _)] at g2
        have nFD : D ≠ Fa := (ne_of_none eF hD).symm
        have Dw4 := Dw.same s4
        have hkq : Tp H4 (.ref qa) (kSt q).data := by rw [data_st]; exact tvq.mono (tx_same s4)
        have hdq : (kSt q).depth ≤ 7 := Nat.le_trans (depth_st _) (by decide)
        have hnone : valV kvw (kSt q) = none := by
          cases e0 : valV kvw (kSt q) with
          | none => rfl
          | some u =>
            have hm := valV_in e0
            rw [hkw] at hm
            obtain ⟨y, hy, ey⟩ := List.mem_map.mp hm
            have := kSt_inj ey
            subst this
            exact absurd hy (nodup_takeS I.nd ec)
        refine ⟨_, rfl, _, rfl, qa, W, kSt q, kvw, rfl, rfl, Dw4, by rw [lkw]; exact small1000 (by omega), hkq, hdq, fun o4 Dw5 => ?_⟩
        have s04 := I.same.trans s4
        have s5 : Same H (upd H4 W o4) := same_upd s04 W0
        have tx45 : TX H4 (upd H4 W o4) := tx_upd Dw4.ntup
        have eF5 : (upd H4 W o4) Fa = some (.lst ws) := by rw [upd_ne nFW]; exact s4 _ _ eF
        have nDW : D ≠ W := dn_nolst Dw4 g1
        have eD5 : (upd H4 W o4) D = some (.lst acc) := by rw [upd_ne nDW]; exact g1
        obtain ⟨kvm, Dm, hkm⟩ := I.mt
        have Dm5 : DN P w (upd H4 W o4) M kvm := (Dm.same s4).mono (by rw [upd_ne nMW]) tx45
        have kvw5 : putK kvw (kSt q) (.ref D) = kvw ++ [(kSt q, .ref D)] := putK_new _ hnone
        rw [kvw5] at Dw5
        have I5 : LotI P w H (upd H4 W o4) Fa M W r (l.map (·.2)) s (most.toNat + 0) nm fs (fs.take (c + 1)) := by
          refine ⟨I.le, I.nd, I.ok, s5, ⟨ws, eF5, (tws.mono (tx_same s4)).mono tx45⟩, ⟨kvm, Dm5, hkm⟩, ⟨_, Dw5, ?_, ?_⟩⟩
          · rw [List.map_append, hkw, KM.take_snoc ec, List.map_append]; rfl
          · intro i q2 kv hq2 hkv
            rw [KM.take_snoc ec] at hq2
            rcases KM.get_snoc hq2 with z1 | ⟨z1, rfl⟩
            · rcases KM.get_snoc hkv with z2 | ⟨z2, _⟩
              · obtain ⟨wl, us, h1, h2, h3, h4⟩ := (hvw i q2 kv z1 z2).same s4
                exact ⟨wl, us, h1, h2, by rw [upd_ne (dn_nolst Dw4 h3)]; exact h3, h4.mono tx45⟩
              · have := KM.lt_of_get z1
                rw [List.length_take] at this
                omega
            · rcases KM.get_snoc hkv with z2 | ⟨z2, rfl⟩
              · have := KM.lt_of_get z2
                rw [List.length_take] at z1
                omega
              · exact ⟨D, acc, rfl, nFD, eD5, g2.mono tx45⟩
        have hv5 : valV (kvw ++ [(kSt q, V.ref D)]) (kSt q) = some (.ref D) := by rw [← kvw5]; exact valV_putK_same hnone
        refine ⟨_, rfl, _, rfl, qa, W, kSt q, _, .ref D, rfl, rfl, Dw5, hkq.mono tx45, hdq, hv5, D, rfl, ⟨_, SqL.of eD5⟩, ?_⟩
        have hbq : (KM.bfsN (scS r (l.map (·.2))) s c)[c]? = some q := by rw [← hbf]; exact ec
        generalize hH5 : upd H4 W o4 = H5 at I5 eD5 g2 tx45 s5
        have g5 := g2.mono tx45
        clear hH5 Dw5 Dm5 eF5
        refine for_list (K := K) (a := D) (xs := acc) (fun j σ H' => ∃ (gs : List St0) (v8 : Option V), σ = [some (.ref p), some (.ref ta), some (.ref sa), some (.int most), some (.ref Fa), some (.ref M), some (.ref W), some (.ref qa), v8, none] ∧ gs = KM.addAll fs ((scS r (l.map (·.2)) q).take j) ∧ (∃ more, gs = fs ++ more) ∧ H' D = some (.lst acc) ∧ TX H5 H' ∧ LotI P w H H' Fa M W r (l.map (·.2)) s (most.toNat + j) nm gs (fs.take (c + 1))) ⟨fs, _, rfl, by simp [KM.addAll], ⟨[], by simp⟩, eD5, TX.refl _, I5⟩ ?_ ?_ ?_
        · rintro j σ H' _ ⟨_, _, rfl, _, _, q, _⟩
          exact SqL.of q
        · rintro j x σ H6 hj ⟨gs, v8, rfl, hgs, ⟨more, hmore⟩, eD, tx6, I6⟩
          obtain ⟨z, hz, tz5⟩ := tpa_item g5 hj
          have tz := tz5.mono tx6
          obtain ⟨za, xz, rfl, _⟩ := tp_st tz
          have hjl : j < l.length := by
            have := (List.getElem?_eq_some_iff.mp hz).1
            unfold scS at this
            rw [List.length_map, List.length_map] at this
            exact this
          obtain ⟨st, hst, ez⟩ := map_get (f := fun st => stepS r st q) hz
          have okz : OkS nm z := by rw [ez]; exact okq.step R _
          obtain ⟨kvm, Dm6, hkm⟩ := I6.mt
          obtain ⟨ws6, eF6, tws6⟩ := I6.fl
          have lw6 : ws6.length = gs.length := by rw [tws6.length, List.length_map]
          have lm6 := I6.le
          have hkz : Tp H6 (.ref za) (kSt z).data := by rw [data_st]; exact tz
          have hdz : (kSt z).depth ≤ 7 := Nat.le_trans (depth_st _) (by decide)
          have hin : (valV kvm (kSt z)).isSome = decide (z ∈ gs) := isSome_keys hkm z
          have hadd : KM.addAll fs ((scS r (l.map (·.2)) q).take (j + 1)) = KM.add gs z := by rw [KM.take_snoc hz, KM.addAll_snoc, hgs]
          refine ⟨_, rfl, _, rfl, za, M, kSt z, kvm, rfl, rfl, Dm6, hkz, hdz, _, rfl, iteB (fun hc0 => ?_) (fun hc0 => ?_)⟩
          · have hc1 : (!(valV kvm (kSt z)).isSome) = true := hc0
            have hnm : z ∉ gs := fun y => by rw [hin, decide_eq_true y] at hc1; cases hc1
            have hnone : valV kvm (kSt z) = none := by
              cases e0 : valV kvm (kSt z) with
              | none => rfl
              | some _ => rw [e0] at hc1; cases hc1
            have lkm : kvm.length = gs.length := by have := congrArg List.length hkm; rw [List.length_map, List.length_map] at this; exact this
            refine ⟨_, rfl, _, rfl, za, M, kSt z, kvm, rfl, rfl, Dm6, by rw [lkm]; exact small1000 (by omega), hkz, hdz, fun o6 Dm7 => ?_⟩
            have tx67 : TX H6 (upd H6 M o6) := tx_upd Dm6.ntup
            have eF7 : (upd H6 M o6) Fa = some (.lst ws6) := by rw [upd_ne nFM]; exact eF6
            refine ⟨_, rfl, .inl ⟨rfl, _, SqL.of eF7⟩, _, rfl, Fa, _, _, rfl, rfl, eF7, by rw [lw6]; exact small1000 (by omega), ?_⟩
            have tx78 : TX (upd H6 M o6) (upd (upd H6 M o6) Fa (.lst (ws6 ++ [.ref za]))) := tx_updL eF7
            have nDM : D ≠ M := dn_nolst Dm6 eD
            obtain ⟨kvw6, Dw6, hkw6, hvw6⟩ := I6.wy
            refine ⟨gs ++ [z], _, rfl, by rw [hadd]; unfold KM.add; rw [if_neg hnm], ⟨more ++ [z], by rw [hmore, List.append_assoc]⟩, by rw [upd_ne nFD, upd_ne nDM]; exact eD, (tx6.trans tx67).trans tx78, ?_⟩
            refine ⟨?_, ?_, fun q2 hq2 => ?_, same_upd (same_upd I6.same M0) F0, ⟨ws6 ++ [.ref za], upd_same, ?_⟩, ⟨putK kvm (kSt z) (.bl true), Dm7.mono (by rw [upd_ne nFM.symm]) tx78, ?_⟩, ⟨kvw6, (Dw6.mono (by rw [upd_ne nMW.symm]) tx67).mono (by rw [upd_ne nFW.symm]) tx78, hkw6, fun i q2 kv h1 h2 => ?_⟩⟩
            · rw [List.length_append]; show gs.length + 1 ≤ most.toNat + (j + 1); omega
            · refine List.nodup_append.mpr ⟨I6.nd, by simp, fun a ha b hb e => ?_⟩
              have : b = z := List.mem_singleton.mp hb
              subst this; subst e; exact hnm ha
            · rcases List.mem_append.mp hq2 with y | y
              · exact I6.ok q2 y
              · have : q2 = z := List.mem_singleton.mp y
                subst this; exact okz
            · rw [List.map_append]
              exact TpA.snoc ((tws6.mono tx67).mono tx78) ((tz.mono tx67).mono tx78)
            · rw [putK_new _ hnone, List.map_append, hkm, List.map_append]; rfl
            · obtain ⟨wl, us, y1, y2, y3, y4⟩ := hvw6 i q2 kv h1 h2
              exact ⟨wl, us, y1, y2, by rw [upd_ne y2, upd_ne (dn_nolst Dm6 y3)]; exact y3, (y4.mono tx67).mono tx78⟩
          · have hc1 : (!(valV kvm (kSt z)).isSome) = false := hc0
            have hm : z ∈ gs := by
              by_cases y : z ∈ gs
              · exact y
              · rw [hin, decide_eq_false y] at hc1; cases hc1
            exact ⟨gs, _, rfl, by rw [hadd]; unfold KM.add; rw [if_pos hm], ⟨more, hmore⟩, eD, tx6, { I6 with le := Nat.le_succ_of_le I6.le }⟩
        · rintro σ H6 ⟨gs, v8, rfl, hgs, ⟨more, hmore⟩, eD, tx6, I6⟩
          have la : acc.length = l.length := by
            rw [g2.length, List.length_map]; unfold scS; rw [List.length_map, List.length_map]
          obtain ⟨ws6, eF6, tws6⟩ := I6.fl
          have lw6 : ws6.length = gs.length := by rw [tws6.length, List.length_map]
          have hgs2 : gs = KM.bfsN (scS r (l.map (·.2))) s (c + 1) := by
            rw [KM.bfsN_step _ _ hbq, ← hbf, hgs, List.take_of_length_le]
            unfold scS
            rw [List.length_map, List.length_map, la]; exact Nat.le_refl _
          refine ⟨_, rfl, Fa, _, rfl, .inl (SqL.of eF6), _, rfl, _, _, rfl, rfl, _, rfl, iteD (fun hm => ?_) (fun hm => ?_)⟩
          · refine ⟨_, rfl, (by show 1 ≤ 1000; decide), fun a1 ha1 => ⟨a1, _, rfl, upd_same, fun dx h1 h2 => ⟨rfl, dx, _, upd_same, by rw [upd_ne h2]; exact upd_same, ?_, kE _ _⟩⟩⟩
            rw [upd_ne h2] at h1; exact h1
          · rw [lw6] at hm
            have ltk : fs.take (c + 1) = gs.take (c + 1) := by rw [hmore, List.take_append_of_le_length hc']
            have hgl : c + 1 ≤ gs.length := by rw [hmore, List.length_append]; omega
            refine ⟨201 - (c + 1), by omega, gs, c + 1, _, _, rfl, hgl, rfl, hgs2, ?_⟩
            rw [← ltk]
            exact { I6 with le := by omega }
    · rw [lw, lkw] at hc
      have hcl : c = fs.length := by omega
      refine ⟨_, rfl, k _ Fa W fs I.same ?_ (by rw [← hcl]; exact hbf) I.nd (by omega) I.ok⟩
      have := I.wy
      rw [hcl, List.take_length] at this
      exact this
end
end L2.K83

set_option Elab.async false
set_option linter.all false
set_option linter.unusedSectionVars false
set_option maxRecDepth 100000
/-! Costs fall: the order in which the search for the cheapest ends. -/
namespace L2.K83
open PySem PySem.Spec PyProof.Rows L2.KB
abbrev T3 := Nat × Nat × Nat
def lt3 : T3 → T3 → Prop := Prod.Lex (· < ·) (Prod.Lex (· < ·) (· < ·))
theorem lt3_wf : WellFounded lt3 := (Prod.lex ⟨_, Nat.lt_wfRel.wf⟩ (Prod.lex ⟨_, Nat.lt_wfRel.wf⟩ ⟨_, Nat.lt_wfRel.wf⟩)).wf
def Vn : Nat → Type
  | 0 => Unit
  | n + 1 => T3 × Vn n
def Rn : (n : Nat) → Vn n → Vn n → Prop
  | 0 => fun _ _ => False
  | n + 1 => Prod.Lex lt3 (Rn n)
theorem Rn_wf : ∀ n, WellFounded (Rn n)
  | 0 => ⟨fun _ => ⟨_, fun _ h => h.elim⟩⟩
  | n + 1 => (Prod.lex ⟨_, lt3_wf⟩ ⟨_, Rn_wf n⟩).wf
def vec : (n : Nat) → (Nat → T3) → Vn n
  | 0, _ => ()
  | n + 1, f => (f 0, vec n fun i => f (i + 1))
theorem vec_lt : ∀ (n j : Nat) (f f' : Nat → T3), j < n → lt3 (f' j) (f j) → (∀ i, i ≠ j → f' i = f i) → Rn n (vec n f') (vec n f)
  | 0, j, f, f', h, _, _ => absurd h (Nat.not_lt_zero _)
  | n + 1, 0, f, f', _, hl, _ => Prod.Lex.left _ _ hl
  | n + 1, j + 1, f, f', h, hl, he => by
    show Prod.Lex lt3 (Rn n) (f' 0, vec n fun i => f' (i + 1)) (f 0, vec n fun i => f (i + 1))
    rw [he 0 (Nat.succ_ne_zero j).symm]
    exact Prod.Lex.right _ (vec_lt n j (fun i => f (i + 1)) (fun i => f' (i + 1)) (Nat.lt_of_succ_lt_succ h) hl fun i hi => he (i + 1) fun e => hi (Nat.succ.inj e))
theorem vec_ext : ∀ (n : Nat) (f f' : Nat → T3), (∀ i, i < n → f' i = f i) → vec n f' = vec n f
  | 0, _, _, _ => rfl
  | n + 1, f, f', h => by
    show (f' 0, vec n fun i => f' (i + 1)) = (f 0, vec n fun i => f (i + 1))
    rw [h 0 (Nat.succ_pos n), vec_ext n (fun i => f (i + 1)) (fun i => f' (i + 1)) fun i hi => h (i + 1) (Nat.succ_lt_succ hi)]
theorem vec_lt' (n j : Nat) (f f' : Nat → T3) (h : j < n) (hl : lt3 (f' j) (f j)) (he : ∀ i, i ≠ j → i < n → f' i = f i) : Rn n (vec n f') (vec n f) := by
  have e : vec n f' = vec n fun i => if i = j then f' j else f i := vec_ext n _ _ fun i hi => by
    by_cases c : i = j
    · subst c; rw [if_pos rfl]
    · rw [if_neg c]; exact he i c hi
  rw [e]
  exact vec_lt n j f _ h (by rw [if_pos rfl]; exact hl) fun i hi => if_neg hi
abbrev Gh := NestedKey → Option (Nat × Nat)
def t3 : Option (Nat × Nat) → T3
  | none => (1, 0, 0)
  | some (a, b) => (0, a, b)
def putG (g : Gh) (k : NestedKey) (ab : Nat × Nat) : Gh := fun j => if j = k then some ab else g j
def gvec (fs : List St0) (g : Gh) : Vn fs.length := vec fs.length fun i => t3 (g (kSt (fs.getD i [])))
theorem gvec_lt {fs : List St0} (nd : fs.Nodup) {g : Gh} {q : St0} {ab : Nat × Nat} (hq : q ∈ fs) (hl : lt3 (t3 (some ab)) (t3 (g (kSt q)))) : Rn fs.length (gvec fs (putG g (kSt q) ab)) (gvec fs g) := by
  obtain ⟨j, hj⟩ := List.getElem?_of_mem hq
  have hjl := (List.getElem?_eq_some_iff.mp hj).1
  have ej : fs.getD j [] = q := by rw [List.getD_eq_getElem?_getD, hj]; rfl
  unfold gvec
  by_cases hall : ∀ i, i ≠ j → i < fs.length → fs.getD i [] ≠ q
  · refine vec_lt' fs.length j _ _ hjl ?_ fun i hi hil => ?_
    · show lt3 (t3 (putG g (kSt q) ab (kSt (fs.getD j [])))) (t3 (g (kSt (fs.getD j []))))
      rw [ej]
      unfold putG
      rw [if_pos rfl]
      exact hl
    · show t3 (putG g (kSt q) ab (kSt (fs.getD i []))) = t3 (g (kSt (fs.getD i [])))
      unfold putG
      rw [if_neg fun e => hall i hi hil (kSt_inj e)]
  · exact absurd (fun i hi hil e => by
      rw [List.getD_eq_getElem?_getD, List.getElem?_eq_getElem hil] at e
      have e : fs[i] = q := e
      obtain ⟨h1, e1⟩ := List.getElem?_eq_some_iff.mp hj
      rcases Nat.lt_or_gt_of_ne hi with z | z
      · exact (List.pairwise_iff_getElem.mp nd) i j hil h1 z (e.trans e1.symm)
      · exact (List.pairwise_iff_getElem.mp nd) j i h1 hil z (e1.trans e.symm)) hall
end L2.K83

set_option Elab.async false
set_option linter.all false
set_option maxRecDepth 100000
set_option maxHeartbeats 4000000
/-! The program: costs, prices. -/
namespace L2.K83
open PySem PySem.Spec PyProof.Rows L2.KB
theorem at_heap {P : Hp → Prop} {A B : Hp} (e : A = B) (h : P B) : P A := by rw [e]; exact h
theorem len_of_sub {α : Type} [DecidableEq α] : ∀ {l m : List α}, l.Nodup → (∀ x ∈ l, x ∈ m) → l.length ≤ m.length
  | [], m, _, _ => Nat.zero_le _
  | x :: l, m, nd, h => by
    have nd' := List.nodup_cons.mp nd
    have hx := h x List.mem_cons_self
    have ih := len_of_sub (m := m.erase x) nd'.2 fun y hy => (List.mem_erase_of_ne fun e => nd'.1 (by rw [← e]; exact hy)).mpr (h y (List.mem_cons_of_mem _ hy))
    rw [List.length_erase_of_mem hx] at ih
    have := List.length_pos_of_mem hx
    rw [List.length_cons]; omega
/-- costs by key, as g says -/
structure CF (P : Program) (w : World) (H : Hp) (f : Addr) (fs : List St0) (g : Gh) : Prop where
  ex : ∃ kvs, DN P w H f kvs ∧ (kvs.map (·.1)).Nodup ∧ (∀ k ∈ kvs.map (·.1), k ∈ fs.map kSt) ∧ ∀ k, (g k = none → valV kvs k = none) ∧ ∀ a b, g k = some (a, b) → ∃ t, valV kvs k = some (.ref t) ∧ H t = some (.tup [.int (a : Nat), .int (b : Nat)])
theorem CF.same {P : Program} {w : World} {H H' : Hp} {f : Addr} {fs : List St0} {g : Gh} (h : CF P w H f fs g) (s : Same H H') : CF P w H' f fs g := by
  obtain ⟨kvs, h1, h2, h3, h4⟩ := h
  refine ⟨kvs, h1.same s, h2, h3, fun k => ⟨(h4 k).1, fun a b e => ?_⟩⟩
  obtain ⟨t, q1, q2⟩ := (h4 k).2 a b e
  exact ⟨t, q1, s _ _ q2⟩
theorem CF.put {P : Program} {w : World} {H : Hp} {f t : Addr} {o : HO} {fs : List St0} {g : Gh} {kvs : List (NestedKey × V)} {q : St0} {ab : Nat × Nat} (hd : DN P w H f kvs) (h2 : (kvs.map (·.1)).Nodup) (h3 : ∀ k ∈ kvs.map (·.1), k ∈ fs.map kSt)
    (h4 : ∀ k, (g k = none → valV kvs k = none) ∧ ∀ a b, g k = some (a, b) → ∃ t, valV kvs k = some (.ref t) ∧ H t = some (.tup [.int (a : Nat), .int (b : Nat)])) (hq : q ∈ fs) (ht : H t = some (.tup [.int (ab.1 : Nat), .int (ab.2 : Nat)]))
    (Dn : DN P w (upd H f o) f (putK kvs (kSt q) (.ref t))) : CF P w (upd H f o) f fs (putG g (kSt q) ab) := by
  have tx : TX H (upd H f o) := tx_upd hd.ntup
  refine ⟨_, Dn, ?_, ?_, fun k => ?_⟩
  · cases e : valV kvs (kSt q) with
    | none => exact nd_putK _ h2 e
    | some u =>
      have : (putK kvs (kSt q) (V.ref t)).map (·.1) = kvs.map (·.1) := by
        unfold putK
        rw [if_pos (by rw [valV_any, e]; rfl), List.map_map]
        refine List.map_congr_left fun x _ => ?_
        show (if x.1 = kSt q then (x.1, V.ref t) else x).1 = x.1
        split <;> rfl
      rw [this]; exact h2
  · intro k hk
    cases e : valV kvs (kSt q) with
    | none =>
      rw [putK_new _ e, List.map_append] at hk
      rcases List.mem_append.mp hk with z | z
      · exact h3 k z
      · have : k = kSt q := List.mem_singleton.mp z
        subst this; exact List.mem_map_of_mem hq
    | some u =>
      have : (putK kvs (kSt q) (V.ref t)).map (·.1) = kvs.map (·.1) := by
        unfold putK
        rw [if_pos (by rw [valV_any, e]; rfl), List.map_map]
        refine List.map_congr_left fun x _ => ?_
        show (if x.1 = kSt q then (x.1, V.ref t) else x).1 = x.1
        split <;> rfl
      rw [this] at hk; exact h3 k hk
  · unfold putG
    rw [valV_put]
    by_cases e : k = kSt q
    · rw [if_pos e, if_pos e]
      exact ⟨fun z => (by cases z), fun a b z => ⟨t, rfl, (by cases Option.some.inj z; exact tx _ _ ht)⟩⟩
    · rw [if_neg e, if_neg e]
      refine ⟨(h4 k).1, fun a b z => ?_⟩
      obtain ⟨t', q1, q2⟩ := (h4 k).2 a b z
      exact ⟨t', q1, tx _ _ q2⟩
theorem lt3_of {a b x y : Nat} (h : HT.lexLt [(a : Int), (b : Int)] [(x : Int), (y : Int)] = true) : lt3 (t3 (some (a, b))) (t3 (some (x, y))) := by
  unfold t3 lt3
  refine Prod.Lex.right _ ?_
  rw [HT.lexLt_cons] at h
  by_cases e : (a : Int) = (x : Int)
  · rw [if_pos e, HT.lexLt_cons] at h
    have e' : a = x := by omega
    subst e'
    by_cases e2 : (b : Int) = (y : Int)
    · rw [if_pos e2, HT.lexLt_nil_nil] at h; cases h
    · rw [if_neg e2] at h
      have := of_decide_eq_true h
      exact Prod.Lex.right _ (by omega)
  · rw [if_neg e] at h
    have := of_decide_eq_true h
    exact Prod.Lex.left _ _ (by omega)
section
variable {P : Program} {w : World} {K : PySem.W.Frag} {mg : Str → Option Value} {base : Heap} {C CT CS fI : Addr} {f1 f2 f3 f4 f5 : Addr} {fdI fd1 fd2 fd3 fd4 fd5 : FuncData}
-- costs_of: slots 0 ways, 1 strokes, 2 wish*, 3 found, 4 going, 5 here, 6 stroke, 7 there, 8 new
abbrev S_costs_of : Stmt := (topS 29)
abbrev N_costs_of : List Str := ["ways", "strokes", "wish", "found", "going", "here", "stroke", "there", "new"]
theorem sc_costs_of : FnScope N_costs_of ["ways", "strokes", "wish"] (defScope S_costs_of) := ⟨rfl, rfl, rfl, by decide +kernel, rfl, by decide +kernel, by decide +kernel⟩
def sp_costs (P : Program) (w : World) : Sp := fun vs H Q _ => ∃ (W Fa sa wt : Addr) (r : List Int) (l : List (Addr × List Str)) (fs : List St0) (n : Int), vs = [.ref W, .ref sa, .ref wt] ∧ WyAt P w H Fa W r (l.map (·.2)) fs ∧ SS H sa l ∧ H wt = some (.tup [.str "groups", .int n]) ∧ l.length ≤ 8 ∧ fs.length ≤ 200 ∧ fs.Nodup ∧ (∀ q ∈ fs, q.length ≤ 40) ∧
  ∀ (H' : Hp) (f : Addr) (g : Gh), Same H H' → H f = none → CF P w H' f fs g → Q (.ref f) H'
theorem ok_costs {f : Addr} {fd : FuncData} (F : Fun K "costs_of" "costs_of" S_costs_of f fd) (T : Txt K mg C) (Dmeets : Fd P w K mg base CX0 2 "meets" f1 fd1 ["standing", "wish"] sp_meets) :
    FnOk P w K mg base CX0 3 f fd ["ways", "strokes", "wish"] (sp_costs P w) := by
  refine F.ok sc_costs_of (fun vs H Q E h => ?_) (fun cdv A outer s H vs Q E hr h => ?_)
  · obtain ⟨W, Fa, sa, wt, r, l, fs, n, rfl, _⟩ := h
    rfl
  · obtain ⟨W, Fa, sa, wt, r, l, fs, n, rfl, wy, S, ew, l8, lf, nd, ok40, k⟩ := h
    obtain ⟨kvw, Dw, hkw, hvw⟩ := id wy
    obtain ⟨es, eW, ekv, ksa⟩ := id Dw
    have les : es.length = fs.length := by
      have := congrArg List.length hkw
      rw [← ekv, List.length_map, kvE_length, List.length_map] at this
      exact this
    refine ⟨_, (pss_cons (ps_lock (ps_setDcN (i := 3) (own := [("here", 5)]) (g := (gName 5)) hr.units rfl sc_costs_of.nd rfl rfl (sw_trueD rfl rfl rfl (by decide +kernel)) (pi_keysN (pv 0)) (blkOk_by (own := [("here", 5)]) (N := N_costs_of) (sc := defScope S_costs_of) (by decide +kernel)) (fun _ _ _ _ _ => (pg_name (i := 5) sc_costs_of.nd rfl (Or.inl rfl))) (fun _ _ _ _ _ => (pts_one (pt_val (pe_call Dmeets.ok (hr.mono (by decide)) rfl Dmeets.m Dmeets.kp Dmeets.b .nil pass0 (pa_cons (pv 5) (pa_cons (pv 2) pa_nil)))))) (fun _ _ _ _ _ => (pv 5)) (fun _ _ _ _ _ => (pe_tup (pa_cons pe_int (pa_cons pe_int pa_nil))))))
      (pss_cons (ps_set (i := 4) sc_costs_of.nd rfl (Or.inl rfl) pe_bl)
      (pss_cons (KB.ps_whileW PassesOwn.never (pt_val (pv 4))
        (pss_cons (ps_set (i := 4) sc_costs_of.nd rfl (Or.inl rfl) pe_bl)
        (pss_one (ps_for PassesOwn.never rfl (pi_reversed (by rfl) T.b_reversed (pa_cons (pe_callTy (call_listN rfl) (by rfl) T.b_list (by decide +kernel) (pa_cons (pv 0) pa_nil)) pa_nil)) (pg_name (i := 5) sc_costs_of.nd rfl (Or.inl rfl))
          (pss_one (ps_for PassesOwn.never rfl (pi_zip (by rfl) T.b_zip (pa_cons (pv 1) (pa_cons (pe_ix (ix_N hr.units) (pv 0) (pv 5) (fun _ _ => rfl)) pa_nil))) (pg_tup rfl (pgs_cons (pg_name (i := 6) sc_costs_of.nd rfl (Or.inl rfl)) (pgs_cons (pg_name (i := 7) sc_costs_of.nd rfl (Or.inl rfl)) pgs_nil)))
            (pss_one (ps_if (pt_cmpR (op_inN hr.units) (pv 7) (pv 3) (by rfl)) (pss_cons (ps_set (i := 8) sc_costs_of.nd rfl (Or.inl rfl) (pe_tup (pa_cons (pe_op op_add (pe_ix ix_tup (pe_ix (ix_N hr.units) (pv 3) (pv 7) (fun _ _ => rfl)) pe_int (fun _ _ => rfl)) (pe_callB call_len_seq (by rfl) T.b_len PySem.boot_len (pa_cons (pv 6) pa_nil))) (pa_cons (pe_op op_add (pe_ix ix_tup (pe_ix (ix_N hr.units) (pv 3) (pv 7) (fun _ _ => rfl)) pe_int (fun _ _ => rfl)) pe_int) pa_nil))))
              (pss_one (ps_if (PW.pt (pw_or (pt_cmpR (op_notInN hr.units) (pv 5) (pv 3) (by rfl)) (pw_or1 (pt_cmpR (op_ltT hr.units0) (pv 8) (pe_ix (ix_N hr.units) (pv 3) (pv 5) (fun _ _ => rfl)) (nomark _))))) (pss_cons (ps_asg (pv 8) (pg_sub (pv 3) (pv 5) (set_N hr.units)))
                (pss_one (ps_set (i := 4) sc_costs_of.nd rfl (Or.inl rfl) pe_bl))) pss_nil))) pss_nil))))))))
      (pss_one (ps_ret (pv 3)))))), ?_⟩
    refine ⟨W, _, eW, trivial, fun od => ⟨_, rfl, W, od, es, rfl, upd_same, fun D o hD Dn => dcN_it (n := es.length) (fun i H' => ∃ g : Gh, CF P w H' D fs g ∧ Same (upd H W (.frz od (dnO P w W es))) H') ?_ ?_ ?_ ?_ ?_⟩⟩
    · exact ⟨fun _ => none, ⟨[], Dn, by simp, (by intro k hk; cases hk), fun k => ⟨fun _ => rfl, fun a b z => by cases z⟩⟩, same_newK (fun _ _ h => h) hD⟩
    · rintro i H' hi ⟨_, _, q⟩
      exact ⟨q _ _ upd_same, hi⟩
    · rintro H' ⟨_, _, q⟩
      exact ⟨q _ _ upd_same, Nat.le_refl _⟩
    · rintro i H1 hi ⟨g, cf, s1⟩ x H2 ⟨rfl, e, he, rfl⟩
      have hfi : i < fs.length := by omega
      have hq : fs[i]? = some fs[i] := List.getElem?_eq_getElem hfi
      generalize hqq : fs[i] = q at hq
      have hek : e.1 = kSt q := by
        have z1 : (kvE es)[i]? = some (e.1, e.2.2) := get_map (f := fun e : NE => (e.1, e.2.2)) he
        have z2 : ((kvE es).map (·.1))[i]? = some e.1 := get_map (f := fun kv : NestedKey × V => kv.1) z1
        rw [ekv, hkw] at z2
        obtain ⟨y, hy, ey⟩ := map_get z2
        rw [hq] at hy
        cases Option.some.inj hy
        exact ey
      have txl : TX H (upd H W (.frz od (dnO P w W es))) := tx_upd Dw.ntup
      have tq : Tp H2 (.ref e.2.1) (dSt q) := by
        have := (ksa e (List.mem_of_getElem? he)).1
        rw [hek, data_st] at this
        exact (this.mono txl).mono (tx_same s1)
      have hwt2 : H2 wt = some (.tup [.str "groups", .int n]) := s1 _ _ (txl _ _ ew)
      have hqm := List.mem_of_getElem? hq
      refine ⟨rfl, _, rfl, _, rfl, .ref e.2.1, wt, q, n, rfl, tq, ok40 q hqm, hwt2, fun H3 b s3 => ⟨b, rfl, iteB (fun _ => ?_) (fun _ => ?_)⟩⟩
      · refine ⟨_, rfl, (by show 2 ≤ sizeLine; decide), fun t ht => ?_⟩
        have s13 := s1.trans s3
        have s4 := same_newK s13 (o := .tup [.int 0, .int 0]) ht
        have cf4 := cf.same (same_newK s3 (o := .tup [.int 0, .int 0]) ht)
        obtain ⟨kvs, D4, n4, k4, v4⟩ := cf4
        have lk : kvs.length ≤ 200 := by
          have := len_of_sub n4 k4
          rw [List.length_map, List.length_map] at this
          omega
        refine ⟨e.2.1, kSt q, kvs, rfl, D4, small1000 (by omega), ?_, Nat.le_trans (depth_st _) (by decide), fun o' D5 => ⟨putG g (kSt q) (0, 0), CF.put D4 n4 k4 v4 hqm upd_same D5, same_upd s4 hD⟩⟩
        rw [data_st]; exact (tq.mono (tx_same s3)).mono (tx_new ht)
      · exact ⟨g, cf.same s3, s1.trans s3⟩
    · rintro H1 ⟨g, cf, s1⟩
      have eW1 := s1 _ _ upd_same
      have nWD : W ≠ D := ne_of_none upd_same hD
      have D0 : H D = none := by
        have : (upd H W (.frz od (dnO P w W es))) D = none := hD
        rw [upd_ne nWD.symm] at this; exact this
      refine ⟨eW1, ?_⟩
      have s2 : Same H (upd H1 W (dnO P w W es)) := same_unlock eW s1
      have cf2 : CF P w (upd H1 W (dnO P w W es)) D fs g := by
        obtain ⟨kvs, h1, h2, h3, h4⟩ := cf
        have tx := tx_unlock (u := dnO P w W es) eW1
        refine ⟨kvs, h1.mono (by rw [upd_ne nWD.symm]) tx, h2, h3, fun k => ⟨(h4 k).1, fun a b e => ?_⟩⟩
        obtain ⟨t, q1, q2⟩ := (h4 k).2 a b e
        exact ⟨t, q1, tx _ _ q2⟩
      generalize hH2 : upd H1 W (dnO P w W es) = H2 at s2 cf2
      clear hH2 cf eW1 s1 Dn hD
      -- while going
      refine ⟨Vn fs.length × Nat, Prod.Lex (Relation.TransGen (Rn fs.length)) (· < ·), fun m σ H' => ∃ (b : Bool) (g : Gh) (v5 v6 v7 v8 : Option V), m = (gvec fs g, if b = true then 1 else 0) ∧ σ = [some (.ref W), some (.ref sa), some (.ref wt), some (.ref D), some (.bl b), v5, v6, v7, v8] ∧ Same H H' ∧ CF P w H' D fs g, (Prod.lex ⟨_, (Rn_wf fs.length).transGen⟩ ⟨_, Nat.lt_wfRel.wf⟩).wf, ⟨_, true, g, none, none, none, none, rfl, rfl, s2, cf2⟩, ?_⟩
      rintro m σ H3 ⟨b, g0, v5, v6, v7, v8, rfl, rfl, s3, cf3⟩
      refine ⟨_, rfl, b, rfl, ?_⟩
      cases b with
      | false => exact iteF ⟨_, rfl, k _ D g0 s3 D0 cf3⟩
      | true =>
        refine iteT ⟨fun σ' H'' => ∃ m', Prod.Lex (Relation.TransGen (Rn fs.length)) (· < ·) m' (gvec fs g0, if true = true then 1 else 0) ∧ ∃ (b : Bool) (g : Gh) (v5 v6 v7 v8 : Option V), m' = (gvec fs g, if b = true then 1 else 0) ∧ σ' = [some (.ref W), some (.ref sa), some (.ref wt), some (.ref D), some (.bl b), v5, v6, v7, v8] ∧ Same H H'' ∧ CF P w H'' D fs g, fun σ' H'' z => z, ?_⟩
        have Dw3 := Dw.same s3
        refine ⟨_, rfl, W, kvw, rfl, Dw3, fun pl bs hpl tbs => ?_⟩
        have tb : TpA H3 bs (fs.map dSt) := by
          have e : (kvw.map fun kv => kv.1.data) = fs.map dSt := by
            rw [show (kvw.map fun kv => kv.1.data) = (kvw.map (·.1)).map NestedKey.data by rw [List.map_map]; rfl, hkw, List.map_map]
            exact List.map_congr_left fun q _ => data_st q
          rw [e] at tbs; exact tbs
        have lb : bs.length = fs.length := by rw [tb.length, List.length_map]
        have s4 := same_newK s3 (o := .lst bs) hpl
        have s34 := same_newK (fun _ _ h => h : Same H3 H3) (o := .lst bs) hpl
        refine ⟨pl, bs, rfl, SqL.of upd_same, for_it (n := bs.length) (fun i σ H' => ∃ (b : Bool) (g : Gh) (v5 v6 v7 v8 : Option V), σ = [some (.ref W), some (.ref sa), some (.ref wt), some (.ref D), some (.bl b), v5, v6, v7, v8] ∧ Same H H' ∧ H' pl = some (.lst bs) ∧ TX H3 H' ∧ CF P w H' D fs g ∧ ((b = false ∧ g = g0) ∨ (b = true ∧ Relation.TransGen (Rn fs.length) (gvec fs g) (gvec fs g0)))) ⟨false, g0, _, _, _, _, rfl, s4, upd_same, tx_new hpl, cf3.same s34, .inl ⟨rfl, rfl⟩⟩ ?_ ?_ ?_ ?_⟩
        · rintro i σ H' hi ⟨_, _, _, _, _, _, rfl, _, e, _⟩
          exact ⟨hi, bs, bs[bs.length - 1 - i], SqL.of e, List.getElem?_eq_getElem (by omega)⟩
        · rintro σ H' _
          exact Nat.le_refl _
        · rintro i σ H5 hi ⟨b, g, v5, v6, v7, v8, rfl, s5, ep5, tx5, cf5, hg⟩ x H6 ⟨rfl, hx⟩
          have hx := hx bs (SqL.of ep5)
          obtain ⟨q, hq, tq3⟩ := tpa_item tb hx
          have tq := tq3.mono tx5
          obtain ⟨qa, xq, rfl, _⟩ := tp_st tq
          have hqm := List.mem_of_getElem? hq
          have hkq : ∀ {H' : Hp}, TX H6 H' → Tp H' (.ref qa) (kSt q).data := fun t => by rw [data_st]; exact tq.mono t
          have hdq : ∀ z : St0, (kSt z).depth ≤ 7 := fun z => Nat.le_trans (depth_st z) (by decide)
          -- ways[here]
          have wy6 := wy.same s5
          obtain ⟨kvw6, Dw6, hkw6, hvw6⟩ := wy6
          have ndk : (kvw6.map (·.1)).Nodup := by rw [hkw6]; exact List.pairwise_map.mpr (nd.imp fun h e => h (kSt_inj e))
          obtain ⟨kv, hkv, ekv6⟩ := map_get (show (kvw6.map (·.1))[bs.length - 1 - i]? = some (kSt q) by rw [hkw6]; exact get_map hq)
          obtain ⟨wl, us, ewl, _, eus, tus⟩ := hvw6 _ q kv hq hkv
          have hval : valV kvw6 (kSt q) = some (.ref wl) := by rw [ekv6, ← ewl]; exact valV_at ndk hkv
          have lus : us.length = l.length := by rw [tus.length, List.length_map]; unfold scS; rw [List.length_map, List.length_map]
          have S6 := S.same s5
          refine ⟨_, rfl, _, rfl, _, rfl, qa, W, kSt q, kvw6, .ref wl, rfl, rfl, Dw6, hkq (TX.refl _), hdq q, hval, sa, wl, _, us, rfl, SqL.of S6.1, SqL.of eus, for_it (n := l.length) (fun j σ H' => ∃ (b : Bool) (g : Gh) (v6 v7 v8 : Option V), σ = [some (.ref W), some (.ref sa), some (.ref wt), some (.ref D), some (.bl b), some (.ref qa), v6, v7, v8] ∧ Same H H' ∧ H' pl = some (.lst bs) ∧ TX H6 H' ∧ H' wl = some (.lst us) ∧ CF P w H' D fs g ∧ ((b = false ∧ g = g0) ∨ (b = true ∧ Relation.TransGen (Rn fs.length) (gvec fs g) (gvec fs g0)))) ⟨b, g, _, _, _, rfl, s5, ep5, TX.refl _, eus, cf5, hg⟩ ?_ ?_ ?_ ?_⟩
          · rintro j σ H' hj ⟨_, _, _, _, _, rfl, s7, _, _, e7, _⟩
            exact ⟨_, us, _, us[j], SqL.of (S.same s7).1, SqL.of e7, get_map (f := fun q : Addr × List Str => V.ref q.1) (List.getElem?_eq_getElem hj), List.getElem?_eq_getElem (by omega)⟩
          · rintro σ H' ⟨_, _, _, _, _, rfl, s7, _, _, e7, _⟩
            exact ⟨_, us, SqL.of (S.same s7).1, SqL.of e7, .inr (by omega)⟩
          · rintro j σ H7 hj ⟨b, g, v6, v7, v8, rfl, s7, ep7, tx7, eus7, cf7, hg⟩ x H8 ⟨T0, y1, y2, rfl, hT, rfl, hy1, hy2⟩
            obtain ⟨sq, hsq, rfl⟩ := map_get (hy1 _ (SqL.of (S.same s7).1))
            have hy2 := hy2 us (SqL.of eus7)
            obtain ⟨z, hz, tz6⟩ := tpa_item tus hy2
            have tz7 := tz6.mono tx7
            obtain ⟨za, xz, rfl, _⟩ := tp_st tz7
            have s78 := same_newK (fun _ _ h => h : Same H7 H7) (o := .tup [.ref sq.1, .ref za]) hT
            have s8 := s7.trans s78
            have cf8 := cf7.same s78
            have ep8 := s78 _ _ ep7
            have eus8 := s78 _ _ eus7
            have tx68 := tx7.trans (tx_same s78)
            have tz8 := tz7.mono (tx_same s78)
            generalize hH8 : upd H7 T0 (.tup [.ref sq.1, .ref za]) = H8 at s78 s8 cf8 ep8 eus8 tx68 tz8
            have eT : H8 T0 = some (.tup [.ref sq.1, .ref za]) := by rw [← hH8]; exact upd_same
            clear hH8
            have est : H8 sq.1 = some (.lst (sq.2.map V.str)) := (S.same s8).2 sq (List.mem_of_getElem? hsq)
            have hkz : ∀ {H' : Hp}, TX H8 H' → Tp H' (.ref za) (kSt z).data := fun t => by rw [data_st]; exact tz8.mono t
            obtain ⟨kvf, Df, nf, kf, vf⟩ := id cf8
            have lkf : kvf.length ≤ 200 := by
              have := len_of_sub nf kf
              rw [List.length_map, List.length_map] at this
              omega
            refine ⟨T0, _, rfl, SqT.of eT, rfl, _, _, rfl, _, _, rfl, rfl, ?_⟩
            refine ⟨_, rfl, _, rfl, za, D, kSt z, kvf, rfl, rfl, Df, hkz (TX.refl _), hdq z, _, rfl, iteB (fun hc0 => ?_) (fun _ => ?_)⟩
            · have hc1 : (valV kvf (kSt z)).isSome = true := hc0
              cases hgz : g (kSt z) with
              | none => rw [(vf (kSt z)).1 hgz] at hc1; cases hc1
              | some ab =>
                obtain ⟨tz, hvz, etz⟩ := (vf (kSt z)).2 ab.1 ab.2 hgz
                have ix0 : ∀ {H' : Hp}, Same H8 H' → H' tz = some (.tup [.int (ab.1 : Nat), .int (ab.2 : Nat)]) := fun q => q _ _ etz
                refine ⟨_, rfl, _, rfl, za, D, kSt z, kvf, .ref tz, rfl, rfl, Df, hkz (TX.refl _), hdq z, hvz, tz, _, 0, _, rfl, rfl, SqT.of etz, rfl, _, rfl, sq.1, _, rfl, .inl (SqL.of est), _, _, rfl, rfl, _, rfl, _, rfl, za, D, kSt z, kvf, .ref tz, rfl, rfl, Df, hkz (TX.refl _), hdq z, hvz, tz, _, 1, _, rfl, rfl, SqT.of etz, rfl, _, _, rfl, rfl, (by show 2 ≤ sizeLine; decide), fun tn htn => ?_⟩
                have e1 : (((ab.1 : Nat) : Int) + ((sq.2.length : Nat) : Int)) = ((ab.1 + sq.2.length : Nat) : Int) := by omega
                have e2 : (((ab.2 : Nat) : Int) + 1) = ((ab.2 + 1 : Nat) : Int) := by omega
                refine at_heap (show upd H8 tn (.tup [.int (((ab.1 : Nat) : Int) + (((sq.2.map V.str).length : Nat) : Int)), .int (((ab.2 : Nat) : Int) + 1)]) = upd H8 tn (.tup [.int ((ab.1 + sq.2.length : Nat) : Int), .int ((ab.2 + 1 : Nat) : Int)]) by rw [List.length_map, e1, e2]) ?_
                have s89 := same_newK (fun _ _ h => h : Same H8 H8) (o := .tup [.int ((ab.1 + sq.2.length : Nat) : Int), .int ((ab.2 + 1 : Nat) : Int)]) htn
                have etn : (upd H8 tn (.tup [.int ((ab.1 + sq.2.length : Nat) : Int), .int ((ab.2 + 1 : Nat) : Int)])) tn = some (.tup [.int ((ab.1 + sq.2.length : Nat) : Int), .int ((ab.2 + 1 : Nat) : Int)]) := upd_same
                generalize hH9 : upd H8 tn (.tup [.int ((ab.1 + sq.2.length : Nat) : Int), .int ((ab.2 + 1 : Nat) : Int)]) = H9 at s89 etn
                clear hH9
                have s9 := s8.trans s89
                have Df9 := Df.same s89
                have vf9 : ∀ k, (g k = none → valV kvf k = none) ∧ ∀ a b, g k = some (a, b) → ∃ t, valV kvf k = some (.ref t) ∧ H9 t = some (.tup [.int (a : Nat), .int (b : Nat)]) := fun k => ⟨(vf k).1, fun a b e => by
                  obtain ⟨t, h1, h2⟩ := (vf k).2 a b e
                  exact ⟨t, h1, s89 _ _ h2⟩⟩
                have hkq9 := hkq (tx68.trans (tx_same s89))
                -- found[here] = new; going = True
                have yes : lt3 (t3 (some (ab.1 + sq.2.length, ab.2 + 1))) (t3 (g (kSt q))) → ∀ o', DN P w (upd H9 D o') D (putK kvf (kSt q) (.ref tn)) → Same H (upd H9 D o') ∧ (upd H9 D o') pl = some (.lst bs) ∧ TX H6 (upd H9 D o') ∧ (upd H9 D o') wl = some (.lst us) ∧ CF P w (upd H9 D o') D fs (putG g (kSt q) (ab.1 + sq.2.length, ab.2 + 1)) ∧ ((true = false ∧ putG g (kSt q) (ab.1 + sq.2.length, ab.2 + 1) = g0) ∨ (true = true ∧ Relation.TransGen (Rn fs.length) (gvec fs (putG g (kSt q) (ab.1 + sq.2.length, ab.2 + 1))) (gvec fs g0))) := fun hl o' D' => by
                  have npl : pl ≠ D := dn_nolst Df9 (s89 _ _ ep8)
                  have nwl : wl ≠ D := dn_nolst Df9 (s89 _ _ eus8)
                  refine ⟨same_upd s9 D0, by rw [upd_ne npl]; exact s89 _ _ ep8, (tx68.trans (tx_same s89)).trans (tx_upd Df9.ntup), by rw [upd_ne nwl]; exact s89 _ _ eus8, CF.put Df9 nf kf vf9 hqm etn D', .inr ⟨rfl, ?_⟩⟩
                  have h1 := gvec_lt nd (g := g) hqm hl
                  rcases hg with ⟨_, rfl⟩ | ⟨_, hg⟩
                  · exact .single h1
                  · exact .trans (.single h1) hg
                refine ⟨_, rfl, _, rfl, qa, D, kSt q, kvf, rfl, rfl, Df9, hkq9, hdq q, _, rfl, iteB (fun hn0 => ?_) (fun hn0 => ?_)⟩
                · have hn1 : (!(valV kvf (kSt q)).isSome) = true := hn0
                  have hgq : g (kSt q) = none := by
                    cases e0 : g (kSt q) with
                    | none => rfl
                    | some xy =>
                      obtain ⟨t, h1, _⟩ := (vf (kSt q)).2 xy.1 xy.2 e0
                      rw [h1] at hn1; cases hn1
                  refine ⟨_, rfl, _, rfl, _, rfl, qa, D, kSt q, kvf, rfl, rfl, Df9, small1000 (by omega), hkq9, hdq q, fun o' D' => ?_⟩
                  obtain ⟨q1, q2, q3, q4, q5, q6⟩ := yes (by rw [hgq]; exact Prod.Lex.left _ _ (by decide)) o' D'
                  exact ⟨true, _, _, _, _, rfl, q1, q2, q3, q4, q5, q6⟩
                · have hn1 : (!(valV kvf (kSt q)).isSome) = false := hn0
                  cases hgq : g (kSt q) with
                  | none => rw [(vf (kSt q)).1 hgq] at hn1; cases hn1
                  | some xy =>
                    obtain ⟨tq, hvq, etq⟩ := (vf9 (kSt q)).2 xy.1 xy.2 hgq
                    refine ⟨_, rfl, _, rfl, _, rfl, qa, D, kSt q, kvf, .ref tq, rfl, rfl, Df9, hkq9, hdq q, hvq, tn, tq, [((ab.1 + sq.2.length : Nat) : Int), ((ab.2 + 1 : Nat) : Int)], [((xy.1 : Nat) : Int), ((xy.2 : Nat) : Int)], rfl, rfl, SqT.of etn, SqT.of etq, _, rfl, iteB (fun hlt => ?_) (fun _ => ?_)⟩
                    · refine ⟨_, rfl, _, rfl, _, rfl, qa, D, kSt q, kvf, rfl, rfl, Df9, small1000 (by omega), hkq9, hdq q, fun o' D' => ?_⟩
                      obtain ⟨q1, q2, q3, q4, q5, q6⟩ := yes (by rw [hgq]; exact lt3_of hlt) o' D'
                      exact ⟨true, _, _, _, _, rfl, q1, q2, q3, q4, q5, q6⟩
                    · exact ⟨b, g, _, _, _, rfl, s9, s89 _ _ ep8, tx68.trans (tx_same s89), s89 _ _ eus8, cf8.same s89, hg⟩
            · exact ⟨b, g, _, _, _, rfl, s8, ep8, tx68, eus8, cf8, hg⟩
          · rintro σ H7 ⟨b, g, v6, v7, v8, rfl, s7, ep7, tx7, eus7, cf7, hg⟩
            exact ⟨b, g, _, _, _, _, rfl, s7, ep7, tx5.trans tx7, cf7, hg⟩
        · rintro σ H5 ⟨b, g, v5, v6, v7, v8, rfl, s5, ep5, tx5, cf5, hg⟩
          refine ⟨_, ?_, b, g, _, _, _, _, rfl, rfl, s5, cf5⟩
          rcases hg with ⟨rfl, rfl⟩ | ⟨rfl, hg⟩
          · exact Prod.Lex.right _ (by decide)
          · exact Prod.Lex.left _ _ hg
/-- told prices: a pair for each standing -/
def PrAt (H : Hp) (ts : List V) (fs : List St0) : Prop := Paired (fun (x : V) (q : St0) => ∃ (t : Addr) (u z : V), x = .ref t ∧ H t = some (.tup [u, z]) ∧ Tp H u (dSt q)) ts fs
theorem PrAt.mono {H H' : Hp} {ts : List V} {fs : List St0} (h : PrAt H ts fs) (t : TX H H') : PrAt H' ts fs := Paired.mono (fun x q ⟨a, u, z, h1, h2, h3⟩ => ⟨a, u, z, h1, t _ _ h2, h3.mono t⟩) h
-- told_prices: slots 0 ways, 1 costs*, 2 here
abbrev S_told_prices : Stmt := (topS 30)
abbrev N_told_prices : List Str := ["ways", "costs", "here"]
theorem sc_told_prices : FnScope N_told_prices ["ways", "costs"] (defScope S_told_prices) := ⟨rfl, rfl, rfl, by decide +kernel, rfl, by decide +kernel, by decide +kernel⟩
def sp_tprices (P : Program) (w : World) : Sp := fun vs H Q _ => ∃ (W Fa f : Addr) (r : List Int) (ss : List (List Str)) (fs : List St0) (g : Gh), vs = [.ref W, .ref f] ∧ WyAt P w H Fa W r ss fs ∧ CF P w H f fs g ∧ f ≠ W ∧ fs.length ≤ 200 ∧
  ∀ (H' : Hp) (R : Addr) (ts : List V), Same H H' → H' R = some (.lst ts) → PrAt H' ts fs → Q (.ref R) H'
theorem ok_tprices {f : Addr} {fd : FuncData} (F : Fun K "told_prices" "told_prices" S_told_prices f fd) (T : Txt K mg C) : FnOk P w K mg base CX0 1 f fd ["ways", "costs"] (sp_tprices P w) := by
  refine F.ok sc_told_prices (fun vs H Q E h => ?_) (fun cdv A outer s H vs Q E hr h => ?_)
  · obtain ⟨W, Fa, f, r, ss, fs, g, rfl, _⟩ := h
    rfl
  · obtain ⟨W, Fa, f, r, ss, fs, g, rfl, wy, cf, nfW, lf, k⟩ := h
    obtain ⟨kvw, Dw, hkw, _⟩ := id wy
    obtain ⟨es, eW, ekv, ksa⟩ := id Dw
    obtain ⟨kvf, Df, nf, kf, vf⟩ := cf
    have les : es.length = fs.length := by
      have := congrArg List.length hkw
      rw [← ekv, List.length_map, kvE_length, List.length_map] at this
      exact this
    have txl : ∀ od, TX H (upd H W (.frz od (dnO P w W es))) := fun od => tx_upd Dw.ntup
    refine ⟨_, (pss_one (ps_ret (pe_lock (pe_lc (own := [("here", 2)]) (g := (gName 2)) (tt := tYes) rfl sc_told_prices.nd (pi_keysN (pv 0)) (blkOk_by (own := [("here", 2)]) (N := N_told_prices) (sc := defScope S_told_prices) (by decide +kernel)) (fun _ _ _ _ _ => (pg_name (i := 2) sc_told_prices.nd rfl (Or.inl rfl))) (fun _ _ _ _ _ => pts_nil) (fun _ _ _ _ _ => (pe_tup (pa_cons (pv 2) (pa_cons (pe_ifExp (pt_cmpR (op_inNK (P := P) (w := w) rfl rfl hr.units) (pv 2) (pv 1) (by rfl)) (pe_ix (ix_tupK (K := K) rfl) (pe_ix (ix_NK (P := P) (w := w) rfl rfl hr.units) (pv 1) (pv 2) (fun _ _ => rfl)) pe_int (fun _ _ => rfl)) pe_non) pa_nil)))))))), ?_⟩
    refine ⟨W, _, eW, trivial, fun od => ⟨_, rfl, W, od, es, rfl, upd_same, fun D hD => lc_it (n := es.length) (fun i H' => ∃ ts : List V, H' D = some (.lst ts) ∧ PrAt H' ts (fs.take i) ∧ Same (upd H W (.frz od (dnO P w W es))) H') ⟨[], upd_same, .nil, same_newK (fun _ _ h => h) hD⟩ ?_ ?_ ?_ ?_⟩⟩
    · rintro i H' hi ⟨_, _, _, q⟩
      exact ⟨q _ _ upd_same, hi⟩
    · rintro H' ⟨_, _, _, q⟩
      exact ⟨q _ _ upd_same, Nat.le_refl _⟩
    · rintro i H1 hi ⟨ts, e1, e2, s1⟩ x H2 ⟨rfl, e, he, rfl⟩
      have hfi : i < fs.length := by omega
      have hq : fs[i]? = some fs[i] := List.getElem?_eq_getElem hfi
      generalize hqq : fs[i] = q at hq
      have hek : e.1 = kSt q := by
        have z1 : (kvE es)[i]? = some (e.1, e.2.2) := get_map (f := fun e : NE => (e.1, e.2.2)) he
        have z2 : ((kvE es).map (·.1))[i]? = some e.1 := get_map (f := fun kv : NestedKey × V => kv.1) z1
        rw [ekv, hkw] at z2
        obtain ⟨y, hy, ey⟩ := map_get z2
        rw [hq] at hy
        cases Option.some.inj hy
        exact ey
      have tq : Tp H2 (.ref e.2.1) (dSt q) := by
        have := (ksa e (List.mem_of_getElem? he)).1
        rw [hek, data_st] at this
        exact (this.mono (txl od)).mono (tx_same s1)
      have hkq : Tp H2 (.ref e.2.1) (kSt q).data := by rw [data_st]; exact tq
      have hdq : (kSt q).depth ≤ 7 := Nat.le_trans (depth_st q) (by decide)
      have Df2 : DN P w H2 f kvf := (Df.mono (by rw [upd_ne nfW]) (txl od)).same s1
      have lt : ts.length = i := by
        have := Paired.length e2
        rw [List.length_take] at this; omega
      have D0 : (upd H W (.frz od (dnO P w W es))) D = none := hD
      have fin : ∀ z : V, ∀ t, H2 t = none → ∃ acc, (upd H2 t (.tup [.ref e.2.1, z])) D = some (.lst acc) ∧ acc.length < sizeLine ∧ ∃ ts' : List V, (upd (upd H2 t (.tup [.ref e.2.1, z])) D (.lst (acc ++ [.ref t]))) D = some (.lst ts') ∧ PrAt (upd (upd H2 t (.tup [.ref e.2.1, z])) D (.lst (acc ++ [.ref t]))) ts' (fs.take (i + 1)) ∧ Same (upd H W (.frz od (dnO P w W es))) (upd (upd H2 t (.tup [.ref e.2.1, z])) D (.lst (acc ++ [.ref t]))) := fun z t ht => by
        have nDt := ne_of_none e1 ht
        have eDt : (upd H2 t (.tup [.ref e.2.1, z])) D = some (.lst ts) := by rw [upd_ne nDt]; exact e1
        have tx : TX H2 (upd (upd H2 t (.tup [.ref e.2.1, z])) D (.lst (ts ++ [.ref t]))) := (tx_new ht).trans (tx_updL eDt)
        refine ⟨ts, eDt, small1000 (by omega), ts ++ [.ref t], upd_same, ?_, same_upd (same_newK s1 ht) D0⟩
        rw [take_succ hq]
        exact Paired.snoc (PrAt.mono e2 tx) ⟨t, _, z, rfl, by rw [upd_ne nDt.symm]; exact upd_same, tq.mono tx⟩
      refine ⟨rfl, _, rfl, _, rfl, _, rfl, e.2.1, f, kSt q, kvf, rfl, rfl, Df2, hkq, hdq, _, rfl, iteB (fun hc0 => ?_) (fun _ => ?_)⟩
      · have hc1 : (valV kvf (kSt q)).isSome = true := hc0
        cases hgz : g (kSt q) with
        | none => rw [(vf (kSt q)).1 hgz] at hc1; cases hc1
        | some ab =>
          obtain ⟨tz, hvz, etz⟩ := (vf (kSt q)).2 ab.1 ab.2 hgz
          have etz2 := s1 _ _ (txl od _ _ etz)
          exact ⟨_, rfl, _, rfl, e.2.1, f, kSt q, kvf, .ref tz, rfl, rfl, Df2, hkq, hdq, hvz, tz, _, 0, _, rfl, rfl, SqT.of etz2, rfl, (by show 2 ≤ sizeLine; decide), fun t ht => fin _ t ht⟩
      · exact ⟨(by show 2 ≤ sizeLine; decide), fun t ht => fin _ t ht⟩
    · rintro H1 ⟨ts, e1, e2, s1⟩
      rw [les, List.take_length] at e2
      have eW1 := s1 _ _ upd_same
      have nWD : W ≠ D := ne_of_none upd_same hD
      exact ⟨eW1, k _ D ts (same_unlock eW s1) (by rw [upd_ne nWD.symm]; exact e1) (e2.mono (tx_unlock eW1))⟩
-- prices: slots 0 book, 1 standing, 2 strokes, 3 wish, 4 most, 5 ways
abbrev S_prices : Stmt := (topS 31)
abbrev N_prices : List Str := ["book", "standing", "strokes", "wish", "most", "ways"]
theorem sc_prices : FnScope N_prices ["book", "standing", "strokes", "wish", "most"] (defScope S_prices) := ⟨rfl, rfl, rfl, by decide +kernel, rfl, by decide +kernel, by decide +kernel⟩
def sp_prices (C CT : Addr) : Sp := fun vs H Q E => ∃ (p sa wt : Addr) (v : V) (r : List Int) (s : St0) (l : List (Addr × List Str)) (nm : List Str) (n most : Int), vs = [.ref p, v, .ref sa, .ref wt, .int most] ∧ BookAt C H p r ∧ Tp H v (dSt s) ∧ SS H sa l ∧ OkR nm r ∧ OkS nm s ∧ H wt = some (.tup [.str "groups", .int n]) ∧ l.length ≤ 8 ∧ 1 ≤ most ∧ most ≤ 200 ∧
  (∀ (d : Option Addr) H', E (.ref CT) d H') ∧
  ∀ (H' : Hp) (R : Addr) (ts : List V) (fs : List St0), Same H H' → H' R = some (.lst ts) → PrAt H' ts fs → fs = KM.bfsN (scS r (l.map (·.2))) s fs.length → fs.length ≤ 200 → Q (.ref R) H'
theorem ok_prices {f : Addr} {fd : FuncData} (F : FunD K "prices" "prices" (defArgs S_prices) (defBody S_prices) (defScope S_prices) [] [] f fd) (T : Txt K mg C) (Dlot_of : Fd P w K mg base (L2.CX P w) 6 "lot_of" f1 fd1 ["book", "standing", "strokes", "most"] (sp_lot P w C CT))
    (Dtold_prices : Fd P w K mg base CX0 1 "told_prices" f2 fd2 ["ways", "costs"] (sp_tprices P w)) (Dcosts_of : Fd P w K mg base CX0 3 "costs_of" f3 fd3 ["ways", "strokes", "wish"] (sp_costs P w)) :
    FnOk P w K mg base (L2.CX P w) 7 f fd ["book", "standing", "strokes", "wish", "most"] (sp_prices C CT) := by
  refine F.ok sc_prices (fun vs H Q E h => ?_) (fun cdv A outer s H vs Q E hr h => ?_)
  · obtain ⟨p, sa, wt, v, r, s, l, nm, n, most, rfl, _⟩ := h
    rfl
  · obtain ⟨p, sa, wt, v, r, s, l, nm, n, most, rfl, bk, tv, S, R, ok, ew, l8, m1, m2, kE, k⟩ := h
    refine ⟨_, (pss_cons (ps_set (i := 5) sc_prices.nd rfl (Or.inl rfl) (pe_call Dlot_of.ok (hr.mono (by decide)) rfl Dlot_of.m Dlot_of.kp Dlot_of.b .nil (passes_call (takes_of rfl rfl rfl rfl) (fun _ _ _ _ h => h)) (pa_cons (pv 0) (pa_cons (pv 1) (pa_cons (pv 2) (pa_cons (pv 4) pa_nil))))))
      (pss_one (ps_ret (pe_call Dtold_prices.ok (hr.mono (by decide)) rfl Dtold_prices.m Dtold_prices.kp Dtold_prices.b .nil pass0 (pa_cons (pv 5) (pa_cons (pe_call Dcosts_of.ok (hr.mono (by decide)) rfl Dcosts_of.m Dcosts_of.kp Dcosts_of.b .nil pass0 (pa_cons (pv 5) (pa_cons (pv 2) (pa_cons (pv 3) pa_nil)))) pa_nil)))))), ?_⟩
    refine ⟨_, rfl, _, rfl, _, rfl, _, rfl, p, sa, v, r, s, l, nm, most, rfl, bk, tv, S, R, ok, l8, m1, m2, kE, fun H1 Fa W fs s1 wy hb nd hl oks => ?_⟩
    refine ⟨_, rfl, _, rfl, _, rfl, _, rfl, W, Fa, sa, wt, r, l, fs, n, rfl, wy, S.same s1, s1 _ _ ew, l8, hl, nd, fun q hq => ?_, fun H2 f g s2 hf cf => ?_⟩
    · have := (oks q hq).length
      have := R.nm40
      omega
    · have nfW : f ≠ W := fun z => by
        obtain ⟨kvw, Dw, _⟩ := wy
        obtain ⟨o, q, _⟩ := Dw.some
        rw [← z, hf] at q; cases q
      exact ⟨W, Fa, f, r, _, fs, g, rfl, wy.same s2, cf, nfW, hl, fun H3 R ts s3 eR pr => k _ R ts fs ((s1.trans s2).trans s3) eR pr hb hl⟩
end
end L2.K83

set_option Elab.async false
set_option linter.all false
set_option maxRecDepth 100000
set_option maxHeartbeats 4000000
/-! The law. -/
namespace L2.K83
open PySem PySem.Spec PyProof.Rows L2.KB
/-- a def that is called with keywords, all of its parameters written -/
structure FdN (P : Program) (w : World) (K : PySem.W.Frag) (mg : Str → Option Value) (base : Heap) (CX : CXT) (k : Nat) (x : Str) (f : Addr) (fd : FuncData) (ps : List Str) (sp : Sp) (n : Nat) (ks : List Str) : Prop where
  m : mg x = some (.ref f)
  kp : PySem.W.keepIn K (.ref f) = true
  ok : FnOk P w K mg base CX k f fd ps sp
  kb : KBn K fd ps n ks (fun us ws => us ++ ws) (fun vs zs => vs ++ zs)
/-! ### a hall beside itself -/
theorem tell_same (hd : Bool) (st : List Str) (x : St0) : tellD hd st (x, x) = false := by
  unfold tellD
  cases hd with
  | true => rw [if_pos rfl, decide_eq_true rfl]; rfl
  | false => rw [if_neg (by decide), decide_eq_true rfl]; rfl
theorem cur_same (r : List Int) : ∀ (row : List (List Str)) (x : St0), ∃ y, curP r r (x, x) row = (y, y)
  | [], x => ⟨x, rfl⟩
  | st :: row, x => cur_same r row (stepS r st x)
theorem no_part {r : List Int} {hd : Bool} {x : St0} {ss row : List (List Str)} (h : PartOk r r hd (x, x) ss row) : False := by
  obtain ⟨w', st, q, _, h2, h3⟩ := h.last
  have := run_cur _ h2
  obtain ⟨y, hy⟩ := cur_same r w' x
  rw [hy] at this
  subst this
  rw [nx_tell, tell_same] at h3
  cases h3
theorem same_lot {r : List Int} {ss : List (List Str)} {s : St0} {ps : List (St0 × St0)} {fs : List St0} (hp : ps = KM.bfsN (scP r r ss) (s, s) ps.length) (hf : fs = KM.bfsN (scS r ss) s fs.length) : ps = fs.map fun q => (q, q) := by
  have e := KM.bfsN_map (fun q : St0 => (q, q)) (fun x y h => (Prod.mk.inj h).1) (scS r ss) (scP r r ss) (fun x => by unfold scP scS; rw [List.map_map]; rfl) s
  have hl : (KM.bfsN (scS r ss) s ps.length).length = ps.length := by
    have := congrArg List.length (hp.trans (e ps.length))
    rw [List.length_map] at this
    exact this.symm
  have := KM.bfsN_ends (scS r ss) s hl (by rw [← hf])
  rw [hp, e, this, ← hf]
theorem seq4_by {t0 t1 t2 u : TS} {D : Ends} {σ : St} {H : Hp} (W : St → Hp → Prop) (hu : ∀ σ H, W σ H → u D σ H) (ht : (∀ σ H, W σ H → u D σ H) → tSeq t0 (tSeq t1 (tSeq t2 u)) D σ H) : tSeq t0 (tSeq t1 (tSeq t2 u)) D σ H := ht hu
theorem at_bl {P : V → Hp → Prop} {c : Bool} {H : Hp} (e : c = true) (h : P (.bl true) H) : P (.bl c) H := by rw [e]; exact h
theorem paired_at {α β : Type} {F : α → β → Prop} : ∀ {l : List α} {m : List β}, Paired F l m → ∀ {i : Nat} {a : α} {b : β}, l[i]? = some a → m[i]? = some b → F a b
  | _, _, .nil, i, a, b, h, _ => by simp at h
  | _, _, .cons h r, 0, a, b, h1, h2 => by
    cases Option.some.inj h1; cases Option.some.inj h2; exact h
  | _, _, .cons h r, i + 1, a, b, h1, h2 => paired_at r (i := i) h1 h2
def dTag (l : List (St0 × St0)) : PyData := .tuple [.str "alike", .list (l.map dPr)]
theorem encTag : Enc dTag := by
  refine ⟨fun a => ?_, fun a => ?_, fun a b => ?_⟩
  · unfold dTag
    simp only [PyData.plain, PyData.plainAll, encPr.plainAll, Bool.and_self]
  · unfold dTag
    show PyData.depthAll [.str "alike", .list (a.map dPr)] + 1 ≤ 40
    have h : ∀ l : List (St0 × St0), PyData.depthAll (l.map dPr) ≤ 5 := fun l => by
      have E := PySem.W.depthAll_map (α := PySem.W.Tup (Str × Int) × PySem.W.Tup (Str × Int)) (l.map fun p => (⟨p.1⟩, ⟨p.2⟩))
      rw [List.map_map] at E
      exact Nat.le_trans E (by decide)
    show max 0 (max (PyData.depthAll (a.map dPr) + 1) 0) + 1 ≤ 40
    have := h a
    omega
  · unfold dTag
    simp only [PyData.eqv, PyData.eqvAll, encPr.eqvAll, Bool.and_true, beq_self_eq_true, Bool.true_and]
section
variable {P : Program} {w : World} {K : PySem.W.Frag} {mg : Str → Option Value} {base : Heap} {C CT CS fI fBk : Addr} {g1 g2 g3 g4 g5 g6 g7 g8 : Addr} {fdBk fe1 fe2 fe3 fe4 fe5 fe6 fe7 fe8 : FuncData}
-- law: slots 0 _law_script, 1 _law_bag_here, 2 _law_spans_here, 3 _law_others, 4 _law_stands, 5 _law_strokes_here, 6 _law_counted, 7 _law_one, 8 _law_other, 9 _law_found, 10 _law_same, 11 _law_lot, 12 _law_stand_here, 13 _law_price
abbrev S_law : Stmt := (topS 49)
abbrev N_law : List Str := ["_law_script", "_law_bag_here", "_law_spans_here", "_law_others", "_law_stands", "_law_strokes_here", "_law_counted", "_law_one", "_law_other", "_law_found", "_law_same", "_law_lot", "_law_stand_here", "_law_price"]
theorem sc_law : FnScope N_law ["_law_script"] (defScope S_law) := ⟨rfl, rfl, rfl, by decide +kernel, rfl, by decide +kernel, by decide +kernel⟩
def spLaw (K : PySem.W.Frag) : Sp := fun vs H Q _ => ∃ (a : Addr) (ns : List Int), vs = [.ref a] ∧ SqL K H a (ns.map V.int) ∧ ns.length ≤ 63 ∧ ∀ H', Q (.bl true) H'
theorem ok_law {f : Addr} {fd : FuncData} (F : Fun K "law" "law" S_law f fd) (T : Txt K mg C) (TM : TMt K mg CT CS fI) (exm : PySem.W.exmOne K (.ref CT) (.ref CT) = some true) (MkB : Mk K C fBk) (Gbk : FnOk P w K mg base CX0 4 fBk fdBk ["self", "lengths"] (sp_init C K)) (bBk : Binds K fdBk ["self", "lengths"] [])
    (D_law_bag : Fd P w K mg base CX0 1 "_law_bag" g1 fe1 ["_law_script"] (sp_bag K)) (D_law_take : Fd P w K mg base CX0 1 "_law_take" g2 fe2 ["_law_bag_here", "_law_many"] sp_take)
    (D_law_halls : Fd P w K mg base CX0 4 "_law_halls" g3 fe3 ["_law_bag_here", "_law_size", "_law_top", "_law_longest"] sp_halls)
    (D_law_parted_right : Fd P w K mg base CX0 4 "_law_parted_right" g4 fe4 ["_law_spans_here", "_law_others", "_law_stands", "_law_strokes_here", "_law_counted", "_law_row"] sp_parted)
    (D_law_alike_right : Fd P w K mg base CX0 4 "_law_alike_right" g5 fe5 ["_law_bag_here", "_law_spans_here", "_law_others", "_law_stands", "_law_strokes_here", "_law_counted", "_law_pairs"] sp_alike)
    (Dtold_apart : FdN P w K mg base (L2.CX P w) 7 "told_apart" g6 fe6 ["one", "first", "other", "second", "strokes", "heard", "most"] (sp_told C CT) 5 ["heard", "most"])
    (Dare_pairs : FdN P w K mg base CX0 7 "are_pairs" g7 fe7 ["one", "first", "other", "second", "strokes", "thing", "heard"] (sp_are C) 6 ["heard"])
    (Dprices : FdN P w K mg base (L2.CX P w) 7 "prices" g8 fe8 ["book", "standing", "strokes", "wish", "most"] (sp_prices C CT) 4 ["most"]) :
    FnOk P w K mg base CX0 8 f fd ["_law_script"] (spLaw K) := by
  refine F.ok sc_law (fun vs H Q E h => ?_) (fun cdv A outer s H vs Q E hr h => ?_)
  · obtain ⟨a, ns, rfl, _⟩ := h
    rfl
  · obtain ⟨a0, ns0, rfl, hS, hl, k⟩ := h
    refine ⟨_, (pss_cons (ps_set (i := 1) sc_law.nd rfl (Or.inl rfl) (pe_call D_law_bag.ok (hr.mono (by decide)) rfl D_law_bag.m D_law_bag.kp D_law_bag.b .nil pass0 (pa_cons (pv 0) pa_nil)))
      (pss_cons (ps_asg (pe_call D_law_halls.ok (hr.mono (by decide)) rfl D_law_halls.m D_law_halls.kp D_law_halls.b .nil pass0 (pa_cons (pv 1) (pa_cons (pe_ix ix_list (pe_lst (pa_cons pe_int (pa_cons pe_int (pa_cons pe_int pa_nil)))) (pe_call D_law_take.ok (hr.mono (by decide)) rfl D_law_take.m D_law_take.kp D_law_take.b .nil pass0 (pa_cons (pv 1) (pa_cons pe_int pa_nil))) (fun _ _ => rfl)) (pa_cons pe_int (pa_cons pe_int pa_nil))))) (pg_tup rfl (pgs_cons (pg_name (i := 2) sc_law.nd rfl (Or.inl rfl)) (pgs_cons (pg_name (i := 3) sc_law.nd rfl (Or.inl rfl)) (pgs_cons (pg_name (i := 4) sc_law.nd rfl (Or.inl rfl)) (pgs_cons (pg_name (i := 5) sc_law.nd rfl (Or.inl rfl)) (pgs_cons (pg_name (i := 6) sc_law.nd rfl (Or.inl rfl)) pgs_nil)))))))
      (pss_cons (ps_par (i := 7) (j := 8) (by rfl) sc_law.nd rfl rfl (by decide) rfl rfl (pa_cons (pe_make MkB Gbk (hr.mono (by decide)) rfl T.mBook bBk .nil pass0 (pa_cons (pe_callTy call_list_of (by rfl) T.b_list (by decide +kernel) (pa_cons (pv 2) pa_nil)) pa_nil)) (pa_cons (pe_make MkB Gbk (hr.mono (by decide)) rfl T.mBook bBk .nil pass0 (pa_cons (pe_callTy call_list_of (by rfl) T.b_list (by decide +kernel) (pa_cons (pv 3) pa_nil)) pa_nil)) pa_nil)) (by rfl))
      (pss_cons (ps_set (i := 9) sc_law.nd rfl (Or.inl rfl) pe_non)
      (pss_cons (ps_try_only rfl rfl ⟨rfl, by decide, .inl TM.m⟩ takes0 (fun W pn xe tk _ => (pss_one (ps_set (i := 9) sc_law.nd rfl (Or.inl rfl) (pe_callN Dtold_apart.ok (hr.mono (by decide)) rfl Dtold_apart.m Dtold_apart.kp Dtold_apart.kb (passes_call (E := fun cls d H => ∀ σ, W cls d σ H) tk (fun _ _ σ _ h => h σ)) (pa_cons (pv 7) (pa_cons (pe_ix (ix_tupK (K := K) rfl) (pv 4) pe_int (fun _ _ => rfl)) (pa_cons (pv 8) (pa_cons (pe_ix (ix_tupK (K := K) rfl) (pv 4) pe_int (fun _ _ => rfl)) (pa_cons (pv 5) pa_nil))))) (pk_cons (pv 6) (pk_cons pe_int pk_nil)))))) (fun a oe cls d pn _ _ => (pss_one (ps_ret pe_bl))))
      (pss_cons (ps_if (pt_cmpR op_eq (pe_ix ix_tup (pv 9) pe_int (fun _ _ => rfl)) pe_str (nomark _)) (pss_one (ps_if (pt_not (pt_val (pe_call D_law_parted_right.ok (hr.mono (by decide)) rfl D_law_parted_right.m D_law_parted_right.kp D_law_parted_right.b .nil pass0 (pa_cons (pv 2) (pa_cons (pv 3) (pa_cons (pv 4) (pa_cons (pv 5) (pa_cons (pv 6) (pa_cons (pe_ix ix_tup (pv 9) pe_int (fun _ _ => rfl)) pa_nil))))))))) (pss_one (ps_ret pe_bl)) pss_nil)) (pss_one (ps_if (pt_not (pt_val (pe_call D_law_alike_right.ok (hr.mono (by decide)) rfl D_law_alike_right.m D_law_alike_right.kp D_law_alike_right.b .nil pass0 (pa_cons (pv 1) (pa_cons (pv 2) (pa_cons (pv 3) (pa_cons (pv 4) (pa_cons (pv 5) (pa_cons (pv 6) (pa_cons (pe_ix ix_tup (pv 9) pe_int (fun _ _ => rfl)) pa_nil)))))))))) (pss_one (ps_ret pe_bl)) (pss_one (ps_if (pt_not (pt_val (pe_callN Dare_pairs.ok (hr.mono (by decide)) rfl Dare_pairs.m Dare_pairs.kp Dare_pairs.kb pass0 (pa_cons (pv 7) (pa_cons (pe_ix ix_tup (pv 4) pe_int (fun _ _ => rfl)) (pa_cons (pv 8) (pa_cons (pe_ix ix_tup (pv 4) pe_int (fun _ _ => rfl)) (pa_cons (pv 5) (pa_cons (pe_revL (pe_ix ix_tup (pv 9) pe_int (fun _ _ => rfl))) pa_nil)))))) (pk_cons (pv 6) pk_nil)))) (pss_one (ps_ret pe_bl)) pss_nil)))))
      (pss_cons (ps_try_only rfl rfl ⟨rfl, by decide, .inl TM.m⟩ takes0 (fun W pn xe tk _ => (pss_cons (ps_set (i := 10) sc_law.nd rfl (Or.inl rfl) (pe_callN Dtold_apart.ok (hr.mono (by decide)) rfl Dtold_apart.m Dtold_apart.kp Dtold_apart.kb (passes_call (E := fun cls d H => ∀ σ, W cls d σ H) tk (fun _ _ σ _ h => h σ)) (pa_cons (pv 7) (pa_cons (pe_ix (ix_tupK (K := K) rfl) (pv 4) pe_int (fun _ _ => rfl)) (pa_cons (pv 7) (pa_cons (pe_ix (ix_tupK (K := K) rfl) (pv 4) pe_int (fun _ _ => rfl)) (pa_cons (pv 5) pa_nil))))) (pk_cons (pv 6) (pk_cons pe_int pk_nil))))
        (pss_one (ps_set (i := 11) sc_law.nd rfl (Or.inl rfl) (pe_callN Dprices.ok (hr.mono (by decide)) rfl Dprices.m Dprices.kp Dprices.kb (passes_call (E := fun cls d H => ∀ σ, W cls d σ H) tk (fun _ _ σ _ h => h σ)) (pa_cons (pv 7) (pa_cons (pe_ix (ix_tupK (K := K) rfl) (pv 4) pe_int (fun _ _ => rfl)) (pa_cons (pv 5) (pa_cons (pe_tup (pa_cons pe_str (pa_cons pe_int pa_nil))) pa_nil)))) (pk_cons pe_int pk_nil)))))) (fun a oe cls d pn _ _ => (pss_one (ps_ret pe_bl))))
      (pss_one (ps_ret (pe_cmpR (op_eqE hr.units) (pv 10) (pe_tup (pa_cons pe_str (pa_cons (pe_lc (own := [("_law_stand_here", 12), ("_law_price", 13)]) (g := (gTup K 2 (gCons (gName 12) (gCons (gName 13) gNil)))) (tt := tYes) rfl sc_law.nd (pi_list (pv 11)) (blkOk_by (own := [("_law_stand_here", 12), ("_law_price", 13)]) (N := N_law) (sc := defScope S_law) (by decide +kernel)) (fun _ _ _ _ _ => (by exact (pg_tupK (K := K) rfl rfl (pgs_cons (pg_name (i := 12) sc_law.nd rfl (Or.inl rfl)) (pgs_cons (pg_name (i := 13) sc_law.nd rfl (Or.inl rfl)) pgs_nil))))) (fun _ _ _ _ _ => pts_nil) (fun _ _ _ _ _ => (pe_tup (pa_cons (pv 12) (pa_cons (pv 12) pa_nil))))) pa_nil))) (nomark _))))))))))), ?_⟩
    refine ⟨_, rfl, a0, ns0, rfl, hS, hl, fun H1 b a ms s1 B1 => ?_⟩
    refine ⟨_, rfl, (by show 3 ≤ sizeLine; decide), fun q hq => ⟨_, rfl, b, a, ms, 3, rfl, B1.same (same_newK (fun _ _ h => h) hq), by decide, by decide, fun H2 v k2 B2 c1 c2 => ?_⟩⟩
    obtain ⟨sz, hsz, esz⟩ := pick (xs := [2, 3, 4]) c1 c2
    have hsz' : 2 ≤ sz ∧ sz ≤ 4 := by
      simp at hsz
      omega
    refine ⟨q, _, v, _, rfl, rfl, SqL.of (k2.get upd_same), esz, b, a, ms, sz, 4, 4, rfl, B2, by omega, by omega, by decide, by decide, by decide, by decide, fun H3 t p1 p2 p4 v3 c r1 r2 s1' s2' l nm k3 B3 et e1 e2 t3 S R1 R2 ok asc l1 l8 l40 => ⟨t, _, rfl, SqT.of et, rfl, _, _, rfl, _, _, rfl, _, _, rfl, _, _, rfl, _, _, rfl, rfl, ?_⟩⟩
    obtain ⟨tp, v1, v2, rfl, etp, tv1, tv2⟩ := tp_pr t3
    -- the books
    refine ⟨_, rfl, p1, _, rfl, .inl (SqL.of e1), fun la hla => fun x1 dx1 hx1 hdx1 hne1 => ?_⟩
    have sA := same_newK (fun _ _ h => h : Same H3 H3) (o := .lst (r1.map V.int)) hla
    have ela : (upd (upd (upd H3 la (.lst (r1.map V.int))) dx1 (.own x1)) x1 (.ins C dx1 [])) la = some (.lst (r1.map V.int)) := by
      rw [upd_ne (ne_of_none upd_same hx1), upd_ne (ne_of_none upd_same hdx1)]; exact upd_same
    refine ⟨x1, dx1, la, r1, rfl, upd_same, ela, ⟨R1.ne, R1.few, R1.pos⟩, fun H5 kp5 bk1 => ⟨rfl, ?_⟩⟩
    have s5 : Same H3 H5 := fun a o e => by
      have e2 := sA _ _ e
      have n1 := ne_of_none e2 hx1
      refine kp5 a o ?_ n1
      rw [upd_ne n1, upd_ne (ne_of_none e2 hdx1)]; exact e2
    refine ⟨_, rfl, p2, _, rfl, .inl (SqL.of (s5 _ _ e2)), fun lb hlb => fun x2 dx2 hx2 hdx2 hne2 => ?_⟩
    have sB := same_newK (fun _ _ h => h : Same H5 H5) (o := .lst (r2.map V.int)) hlb
    have elb : (upd (upd (upd H5 lb (.lst (r2.map V.int))) dx2 (.own x2)) x2 (.ins C dx2 [])) lb = some (.lst (r2.map V.int)) := by
      rw [upd_ne (ne_of_none upd_same hx2), upd_ne (ne_of_none upd_same hdx2)]; exact upd_same
    refine ⟨x2, dx2, lb, r2, rfl, upd_same, elb, ⟨R2.ne, R2.few, R2.pos⟩, fun H6 kp6 bk2 => ⟨rfl, _, _, rfl, ?_⟩⟩
    have s56 : Same H5 H6 := fun a o e => by
      have e2 := sB _ _ e
      have n1 := ne_of_none e2 hx2
      refine kp6 a o ?_ n1
      rw [upd_ne n1, upd_ne (ne_of_none e2 hdx2)]; exact e2
    have s6 := s5.trans s56
    have bk1 := bk1.same s56
    have B6 := B3.same s6
    have etp6 := s6 _ _ etp
    have tv16 := tv1.mono (tx_same s6)
    have tv26 := tv2.mono (tx_same s6)
    have t36 := t3.mono (tx_same s6)
    have S6 := S.same s6
    have e16 := s6 _ _ e1
    have e26 := s6 _ _ e2
    clear sA sB ela elb kp5 kp6 s56 s5 s6
    dsimp only
    refine seq4_by (fun σ H' => ∃ v9 : Option V, σ = [some (.ref a0), some (.ref b), some (.ref p1), some (.ref p2), some (.ref tp), some (.ref p4), some (.bl c), some (.ref x1), some (.ref x2), v9, none, none, none, none] ∧ Kp H6 H') ?_ (fun go => ?_)
    · -- a hall beside itself
      rintro σ H7 ⟨v9, rfl, k7⟩
      have bk7 := bk1.kp k7
      have etp7 := k7.get etp6
      have tv17 := tv16.mono (tx_kp k7)
      have S7 := S6.kp k7
      have kE : ∀ (D : Ends), D.rt = Q → ∀ (d : Option Addr) (H' : Hp) (σ : St), wOnly K (.ref CT) (fun _ _ _ => tRet (tC (.bl true))) (fun _ _ _ _ => False) D (.ref CT) d σ H' := fun D hD d H' σ => ⟨true, exm, fun _ a _ => by show D.rt (.bl true) H'; rw [hD]; exact k _, fun z => nomatch z⟩
      refine ⟨_, rfl, _, rfl, tp, _, 0, v1, rfl, rfl, SqT.of etp7, rfl, _, rfl, _, rfl, tp, _, 0, v1, rfl, rfl, SqT.of etp7, rfl, _, rfl, _, rfl, rfl, rfl, ?_⟩
      refine ⟨x1, x1, p4, v1, v1, r1, r1, (s1', s1'), l, nm, c, 120, rfl, bk7, bk7, tv17, tv17, S7, R1, R1, ⟨ok.a, ok.a⟩, l8, by decide, by decide, fun d H' σ => kE _ rfl d H' σ, fun H8 t8 R lr s8 et8 SR PO => (no_part PO).elim, fun H8 t8 L ws ps s8 et8 eL tws AO => ?_⟩
      have etp8 := s8 _ _ etp7
      refine ⟨_, rfl, _, rfl, tp, _, 0, v1, rfl, rfl, SqT.of etp8, rfl, _, rfl, (by show 2 ≤ sizeLine; decide), fun wt hwt => ⟨rfl, rfl, ?_⟩⟩
      have s9 := same_newK s8 (o := .tup [.str "groups", .int 1]) hwt
      refine ⟨x1, p4, wt, v1, r1, s1', l, nm, 1, 120, rfl, bk7.same s9, tv17.mono (tx_same s9), S7.same s9, R1, ok.a, upd_same, l8, by decide, by decide, fun d H' σ => kE _ rfl d H' σ, fun H9 R ts fs s10 eR pr hb hfl => ?_⟩
      have s89 : Same H8 H9 := (same_newK (fun _ _ h => h) hwt).trans s10
      have et9 := s89 _ _ et8
      have eL9 := s89 _ _ eL
      have tws9 := tws.mono (tx_same s89)
      have lts := Paired.length pr
      refine ⟨_, rfl, _, rfl, R, rfl, ⟨_, SqL.of eR⟩, fun D hD => lc_list (K := K) (a := R) (xs := ts) (fun i H' => ∃ acc : List V, H' D = some (.lst acc) ∧ TpA H' acc (((fs.take i).map fun q => (q, q)).map dPr) ∧ Same H9 H') ⟨[], upd_same, .nil, same_newK (fun _ _ h => h) hD⟩ ?_ ?_ ?_⟩
      · rintro i H' _ ⟨_, _, _, q⟩
        exact SqL.of (q _ _ eR)
      · rintro i x H10 hi ⟨acc, q1, q2, q3⟩
        have hil : i < ts.length := (List.getElem?_eq_some_iff.mp hi).1
        have hfi : i < fs.length := by omega
        have hq : fs[i]? = some fs[i] := List.getElem?_eq_getElem hfi
        obtain ⟨tt, u, z, rfl, ett, tu⟩ := paired_at pr hi hq
        have la : acc.length = i := by
          rw [q2.length, List.length_map, List.length_map, List.length_take]; omega
        refine ⟨tt, _, rfl, SqT.of (q3 _ _ ett), rfl, _, _, rfl, _, _, rfl, rfl, rfl, _, rfl, _, rfl, (by show 2 ≤ sizeLine; decide), fun tn htn => ?_⟩
        have nDt := ne_of_none q1 htn
        have eDt : (upd H10 tn (.tup [u, u])) D = some (.lst acc) := by rw [upd_ne nDt]; exact q1
        have tx : TX H10 (upd (upd H10 tn (.tup [u, u])) D (.lst (acc ++ [.ref tn]))) := (tx_new htn).trans (tx_updL eDt)
        have tu' := (tu.mono (tx_same q3)).mono tx
        refine ⟨acc, eDt, small1000 (by omega), acc ++ [.ref tn], upd_same, ?_, same_upd (same_newK q3 htn) hD⟩
        rw [take_succ hq, List.map_append, List.map_append]
        refine TpA.snoc (q2.mono tx) (tp_pr_of (p := (fs[i], fs[i])) (v1 := u) (v2 := u) ?_ tu' tu')
        show (upd _ D _) tn = _
        rw [upd_ne nDt.symm]; exact upd_same
      · rintro H10 ⟨acc, q1, q2, q3⟩
        rw [lts, List.take_length] at q2
        refine ⟨(by show 2 ≤ sizeLine; decide), fun t10 ht10 => ?_⟩
        have s11 := same_newK q3 (o := .tup [.str "alike", .ref D]) ht10
        have s11' := same_newK (fun _ _ h => h : Same H10 H10) (o := .tup [.str "alike", .ref D]) ht10
        have heq := same_lot AO.bfs hb
        refine ⟨List (St0 × St0), inferInstance, dTag, ps, fs.map fun q => (q, q), encTag, .tup (SqT.of (s11 _ _ et9)) (.cons (.str _) (.cons (.lst (SqL.of (s11 _ _ eL9)) (tws9.mono (tx_same s11)).dp) .nil)), .tup (SqT.of upd_same) (.cons (.str _) (.cons (.lst (SqL.of (s11' _ _ q1)) (q2.mono (tx_same s11')).dp) .nil)), ?_⟩
        exact at_bl (dtrue heq) (k _)
    · refine ⟨_, rfl, _, rfl, tp, _, 0, v1, rfl, rfl, SqT.of etp6, rfl, _, rfl, _, rfl, tp, _, 1, v2, rfl, rfl, SqT.of etp6, rfl, _, rfl, _, rfl, rfl, rfl, ?_⟩
      refine ⟨x1, x2, p4, v1, v2, r1, r2, (s1', s2'), l, nm, c, 120, rfl, bk1, bk2, tv16, tv26, S6, R1, R2, ok, l8, by decide, by decide, fun d H' σ => ⟨true, exm, fun _ a _ => k _, fun z => nomatch z⟩, fun H7 t7 R lr s7 et7 SR PO => ?_, fun H7 t7 L ws ps s7 et7 eL tws AO => ?_⟩
      · -- parted
        refine ⟨_, rfl, t7, _, 0, _, rfl, rfl, SqT.of et7, rfl, rfl, _, rfl, iteD (fun _ => ?_) (fun c => absurd rfl c)⟩
        have llr : lr.length = (lr.map (·.2)).length := (List.length_map _).symm
        obtain ⟨w', st, q, hrow, hrun, hno⟩ := PO.last
        have plen := PO.len
        refine ⟨_, rfl, _, rfl, _, rfl, _, rfl, _, rfl, _, rfl, t7, _, 1, _, rfl, rfl, SqT.of et7, rfl, p1, p2, p4, R, .ref tp, r1, r2, (s1', s2'), l, lr, nm, c, rfl, s7 _ _ e16, s7 _ _ e26, t36.mono (tx_same s7), S6.same s7, SR, R1, R2, ok, asc, l8, by omega, fun q hq => PO.mem _ (List.mem_map_of_mem hq), ?_, fun row hr hss => ?_, fun H8 s8 => ⟨true, rfl, iteF (go _ _ ⟨_, rfl, kp_same (s7.trans s8)⟩)⟩⟩
        · rw [llr, hrow, goneUn_parted hrun hno, List.length_append]
          show [(w'.length : Int)] = [((w'.length + 1 : Nat) : Int) - 1]
          congr 1; omega
        · exact goneUn_run (PO.short row (by rw [← llr]; exact hr) hss)
      · -- alike
        refine ⟨_, rfl, t7, _, 0, _, rfl, rfl, SqT.of et7, rfl, rfl, _, rfl, iteD (fun c => absurd (V.str.inj c) (by decide +kernel)) (fun _ => ?_)⟩
        have B7 := B6.same s7
        refine ⟨_, rfl, _, rfl, _, rfl, _, rfl, _, rfl, _, rfl, _, rfl, t7, _, 1, _, rfl, rfl, SqT.of et7, rfl, b, a, ms, p1, p2, p4, L, .ref tp, r1, r2, (s1', s2'), l, ps, ws, nm, c, rfl, B7, s7 _ _ e16, s7 _ _ e26, t36.mono (tx_same s7), S6.same s7, eL, tws, R1, R2, asc, l1, l8, AO.few, AO.nd, AO.at_, AO.ok, AO.cl, fun H8 k8 B8 => ⟨true, rfl, iteF ?_⟩⟩
        have k78 := (kp_same s7).trans k8
        have et8 := k8.get et7
        have lws : ws.length = ps.length := by rw [tws.length, List.length_map]
        obtain ⟨cs, hcs, rfl, _⟩ := pr_items tws
        have eL8 : H8 L = some (.lst (cs.map fun c => V.ref c.1)) := k8.get eL (refs_nobag _ _)
        have etp8 := k78.get etp6
        refine ⟨_, rfl, _, rfl, tp, _, 0, v1, rfl, rfl, SqT.of etp8, rfl, _, rfl, _, rfl, tp, _, 1, v2, rfl, rfl, SqT.of etp8, rfl, _, rfl, _, rfl, t7, _, 1, _, rfl, rfl, SqT.of et8, rfl, L, _, rfl, SqL.of eL8, fun rv hrv => ⟨_, rfl, rfl, rfl, ?_⟩⟩
        have k9 := k78.new (o := .lst (cs.map fun c => V.ref c.1).reverse) hrv
        have trev : TpA (upd H8 rv (.lst (cs.map fun c => V.ref c.1).reverse)) (cs.map fun c => V.ref c.1).reverse (ps.reverse.map dPr) := by
          rw [List.map_reverse]
          exact ((tws.mono (tx_kp k8)).reverse).mono (tx_new hrv)
        refine ⟨x1, x2, p4, rv, v1, v2, r1, r2, (s1', s2'), l, nm, c, _, ps.reverse, rfl, bk1.kp k9, bk2.kp k9, tv16.mono (tx_kp k9), tv26.mono (tx_kp k9), S6.kp k9, R1, R2, upd_same, trev, List.pairwise_reverse.mpr (AO.nd.imp Ne.symm), List.mem_reverse.mpr AO.at_, by rw [List.length_reverse]; exact AO.few, fun q hq => AO.ok q (List.mem_reverse.mp hq), fun q hq st hst => ?_, fun H9 s9 => ⟨true, rfl, iteF (go _ _ ⟨_, rfl, k9.trans (kp_same s9)⟩)⟩⟩
        obtain ⟨q', h1, h2⟩ := AO.cl q (List.mem_reverse.mp hq) st hst
        exact ⟨q', h1, List.mem_reverse.mpr h2⟩
end
end L2.K83

set_option Elab.async false
set_option linter.all false
set_option maxRecDepth 100000
set_option maxHeartbeats 4000000
/-! What the top has made, and the end. -/
namespace L2.K83
open PySem PySem.Spec PyProof.Rows L2.KB
/-- an own class of errors is matched by its own name -/
theorem exm_own {K : PySem.W.Frag} {S : Addr} (b : PySem.W.subIn K (.ref S) (.type "BaseException") = some true) (i : PySem.W.isClsIn K S = true) (t : PySem.W.typeIn K (.ref S) = some (.type "type")) (s : PySem.W.subIn K (.ref S) (.ref S) = some true) : PySem.W.exmOne K (.ref S) (.ref S) = some true := by
  have i' : (PySem.W.clsIn K S).isSome = true := i
  have e1 : (PySem.W.subIn K (.ref S) (.type "BaseException") == some true) = true := by rw [b]; rfl
  have e2 : ((PySem.W.clsIn K S).isSome && PySem.W.typeIn K (.ref S) == some (.type "type")) = true := by rw [i', t]; rfl
  unfold PySem.W.exmOne
  rw [if_pos e1]
  show (if _ = true then _ else none) = some true
  rw [if_pos e2]
  exact s

theorem all_mk {P : Program} {w : World} {K : PySem.W.Frag} {h : Heap} {mg : Str → Option Value} {fa : Addr} (X : K.In h) (G : h.Ns mainGlobals mg) (hfa : mg "law" = some (.ref fa))
    {C CT CS fBk fSl fTi NT : Addr} {tL tS : Tok} {nmT qT : Str} {bsT : List Value} {snT : List Str} {subT : List Value} {abT : Bool} {colT : Option Bool} {ddT : Option Addr} {m0 m1 m2 m3 m5 : Option Value}
    {f_is_whole f_is_between f_is_length f_with_calls f_looks f_beat f_called f_both_behind f_row_to f_told_apart f_is_standing f_is_pair f_are_pairs f_groups_of f_meets f_lot_of f_costs_of f_told_prices f_prices f__law_bag f__law_take f__law_names f__law_spans f__law_rests f__law_hall f__law_other_spans f__law_stand f__law_after f__law_called f__law_strokes f__law_halls f__law_gone f__law_shorter f__law_parted_right f__law_alike_right f_law : Addr}
    {ocI kvI doI pmI cdI ctI : Value} {odI anI : Option Addr} {osI : Array (Option Value)}
    {ocSl kvSl doSl pmSl cdSl ctSl : Value} {odSl anSl : Option Addr} {osSl : Array (Option Value)}
    {ocTi kvTi doTi pmTi cdTi ctTi : Value} {odTi anTi : Option Addr} {osTi : Array (Option Value)}
    {oc_is_whole kv_is_whole do_is_whole pm_is_whole cd_is_whole ct_is_whole : Value} {od_is_whole an_is_whole : Option Addr} {os_is_whole : Array (Option Value)}
    {oc_is_between kv_is_between do_is_between pm_is_between cd_is_between ct_is_between : Value} {od_is_between an_is_between : Option Addr} {os_is_between : Array (Option Value)}
    {oc_is_length kv_is_length do_is_length pm_is_length cd_is_length ct_is_length : Value} {od_is_length an_is_length : Option Addr} {os_is_length : Array (Option Value)}
    {oc_with_calls kv_with_calls do_with_calls pm_with_calls cd_with_calls ct_with_calls : Value} {od_with_calls an_with_calls : Option Addr} {os_with_calls : Array (Option Value)}
    {oc_looks kv_looks do_looks pm_looks cd_looks ct_looks : Value} {od_looks an_looks : Option Addr} {os_looks : Array (Option Value)}
    {oc_beat kv_beat do_beat pm_beat cd_beat ct_beat : Value} {od_beat an_beat : Option Addr} {os_beat : Array (Option Value)}
    {oc_called kv_called do_called pm_called cd_called ct_called : Value} {od_called an_called : Option Addr} {os_called : Array (Option Value)}
    {oc_both_behind kv_both_behind do_both_behind pm_both_behind cd_both_behind ct_both_behind : Value} {od_both_behind an_both_behind : Option Addr} {os_both_behind : Array (Option Value)}
    {oc_row_to kv_row_to do_row_to pm_row_to cd_row_to ct_row_to : Value} {od_row_to an_row_to : Option Addr} {os_row_to : Array (Option Value)}
    {oc_told_apart kv_told_apart do_told_apart pm_told_apart cd_told_apart ct_told_apart : Value} {od_told_apart an_told_apart : Option Addr} {os_told_apart : Array (Option Value)}
    {oc_is_standing kv_is_standing do_is_standing pm_is_standing cd_is_standing ct_is_standing : Value} {od_is_standing an_is_standing : Option Addr} {os_is_standing : Array (Option Value)}
    {oc_is_pair kv_is_pair do_is_pair pm_is_pair cd_is_pair ct_is_pair : Value} {od_is_pair an_is_pair : Option Addr} {os_is_pair : Array (Option Value)}
    {oc_are_pairs kv_are_pairs do_are_pairs pm_are_pairs cd_are_pairs ct_are_pairs : Value} {od_are_pairs an_are_pairs : Option Addr} {os_are_pairs : Array (Option Value)}
    {oc_groups_of kv_groups_of do_groups_of pm_groups_of cd_groups_of ct_groups_of : Value} {od_groups_of an_groups_of : Option Addr} {os_groups_of : Array (Option Value)}
    {oc_meets kv_meets do_meets pm_meets cd_meets ct_meets : Value} {od_meets an_meets : Option Addr} {os_meets : Array (Option Value)}
    {oc_lot_of kv_lot_of do_lot_of pm_lot_of cd_lot_of ct_lot_of : Value} {od_lot_of an_lot_of : Option Addr} {os_lot_of : Array (Option Value)}
    {oc_costs_of kv_costs_of do_costs_of pm_costs_of cd_costs_of ct_costs_of : Value} {od_costs_of an_costs_of : Option Addr} {os_costs_of : Array (Option Value)}
    {oc_told_prices kv_told_prices do_told_prices pm_told_prices cd_told_prices ct_told_prices : Value} {od_told_prices an_told_prices : Option Addr} {os_told_prices : Array (Option Value)}
    {oc_prices kv_prices do_prices pm_prices cd_prices ct_prices : Value} {od_prices an_prices : Option Addr} {os_prices : Array (Option Value)}
    {oc__law_bag kv__law_bag do__law_bag pm__law_bag cd__law_bag ct__law_bag : Value} {od__law_bag an__law_bag : Option Addr} {os__law_bag : Array (Option Value)}
    {oc__law_take kv__law_take do__law_take pm__law_take cd__law_take ct__law_take : Value} {od__law_take an__law_take : Option Addr} {os__law_take : Array (Option Value)}
    {oc__law_names kv__law_names do__law_names pm__law_names cd__law_names ct__law_names : Value} {od__law_names an__law_names : Option Addr} {os__law_names : Array (Option Value)}
    {oc__law_spans kv__law_spans do__law_spans pm__law_spans cd__law_spans ct__law_spans : Value} {od__law_spans an__law_spans : Option Addr} {os__law_spans : Array (Option Value)}
    {oc__law_rests kv__law_rests do__law_rests pm__law_rests cd__law_rests ct__law_rests : Value} {od__law_rests an__law_rests : Option Addr} {os__law_rests : Array (Option Value)}
    {oc__law_hall kv__law_hall do__law_hall pm__law_hall cd__law_hall ct__law_hall : Value} {od__law_hall an__law_hall : Option Addr} {os__law_hall : Array (Option Value)}
    {oc__law_other_spans kv__law_other_spans do__law_other_spans pm__law_other_spans cd__law_other_spans ct__law_other_spans : Value} {od__law_other_spans an__law_other_spans : Option Addr} {os__law_other_spans : Array (Option Value)}
    {oc__law_stand kv__law_stand do__law_stand pm__law_stand cd__law_stand ct__law_stand : Value} {od__law_stand an__law_stand : Option Addr} {os__law_stand : Array (Option Value)}
    {oc__law_after kv__law_after do__law_after pm__law_after cd__law_after ct__law_after : Value} {od__law_after an__law_after : Option Addr} {os__law_after : Array (Option Value)}
    {oc__law_called kv__law_called do__law_called pm__law_called cd__law_called ct__law_called : Value} {od__law_called an__law_called : Option Addr} {os__law_called : Array (Option Value)}
    {oc__law_strokes kv__law_strokes do__law_strokes pm__law_strokes cd__law_strokes ct__law_strokes : Value} {od__law_strokes an__law_strokes : Option Addr} {os__law_strokes : Array (Option Value)}
    {oc__law_halls kv__law_halls do__law_halls pm__law_halls cd__law_halls ct__law_halls : Value} {od__law_halls an__law_halls : Option Addr} {os__law_halls : Array (Option Value)}
    {oc__law_gone kv__law_gone do__law_gone pm__law_gone cd__law_gone ct__law_gone : Value} {od__law_gone an__law_gone : Option Addr} {os__law_gone : Array (Option Value)}
    {oc__law_shorter kv__law_shorter do__law_shorter pm__law_shorter cd__law_shorter ct__law_shorter : Value} {od__law_shorter an__law_shorter : Option Addr} {os__law_shorter : Array (Option Value)}
    {oc__law_parted_right kv__law_parted_right do__law_parted_right pm__law_parted_right cd__law_parted_right ct__law_parted_right : Value} {od__law_parted_right an__law_parted_right : Option Addr} {os__law_parted_right : Array (Option Value)}
    {oc__law_alike_right kv__law_alike_right do__law_alike_right pm__law_alike_right cd__law_alike_right ct__law_alike_right : Value} {od__law_alike_right an__law_alike_right : Option Addr} {os__law_alike_right : Array (Option Value)}
    {oc_law kv_law do_law pm_law cd_law ct_law : Value} {od_law an_law : Option Addr} {os_law : Array (Option Value)}
    (z_len : PySem.W.nsIn K mainGlobals "len" = some none)
    (z_tuple : PySem.W.nsIn K mainGlobals "tuple" = some none)
    (z_list : PySem.W.nsIn K mainGlobals "list" = some none)
    (z_int : PySem.W.nsIn K mainGlobals "int" = some none)
    (z_bool : PySem.W.nsIn K mainGlobals "bool" = some none)
    (z_str : PySem.W.nsIn K mainGlobals "str" = some none)
    (z_isinstance : PySem.W.nsIn K mainGlobals "isinstance" = some none)
    (z_enumerate : PySem.W.nsIn K mainGlobals "enumerate" = some none)
    (z_zip : PySem.W.nsIn K mainGlobals "zip" = some none)
    (z_reversed : PySem.W.nsIn K mainGlobals "reversed" = some none)
    (z_range : PySem.W.nsIn K mainGlobals "range" = some none)
    (z_min : PySem.W.nsIn K mainGlobals "min" = some none)
    (z_max : PySem.W.nsIn K mainGlobals "max" = some none)
    (z_abs : PySem.W.nsIn K mainGlobals "abs" = some none)
    (z_dict : PySem.W.nsIn K mainGlobals "dict" = some none)
    (z_all : PySem.W.nsIn K mainGlobals "all" = some none)
    (z_sorted : PySem.W.nsIn K mainGlobals "sorted" = some none)
    (z_set : PySem.W.nsIn K mainGlobals "set" = some none)
    (gL : PySem.W.nsIn K mainGlobals "MOST_LENGTH" = some (some (.int 1000000000 tL)))
    (gS : PySem.W.nsIn K mainGlobals "MOST_SLEEPERS" = some (some (.int 40 tS)))
    (aB : PySem.W.nsIn K mainGlobals "Book" = some (some (.ref C)))
    (pgB : PySem.W.plainGet K C Str.empty = true)
    (hdB : PySem.W.hasDictIn K C = true)
    (poB : PySem.W.plainOver K C = true)
    (saB : PySem.W.findIn K (.ref C) "__setattr__" = some (some (.builtin "object.__setattr__")))
    (mkB : PySem.W.makesIn K C = true)
    (kB : PySem.W.keepIn K (.ref C) = true)
    (nR : PySem.W.findIn K (.ref C) "rows" = some none)
    (aI : PySem.W.findIn K (.ref C) "__init__" = some (some (.ref fBk)))
    (iI : PySem.W.isFn K (.ref fBk) = true)
    (l1I : K.lookup fBk = some ⟨ocI, odI, .func (PySem.W.fnOf "__init__" "Book.__init__" (defArgs S_Binit) (defBody S_Binit) (defScope S_Binit) .none kvI doI pmI anI cdI ctI), osI⟩)
    (l2I : PySem.W.codeIn K cdI "Book.__init__" = true)
    (l3I : PySem.W.keepIn K (.ref fBk) = true)
    (aSl : PySem.W.findIn K (.ref C) "sleep" = some (some (.ref fSl)))
    (iSl : PySem.W.isFn K (.ref fSl) = true)
    (l1Sl : K.lookup fSl = some ⟨ocSl, odSl, .func (PySem.W.fnOf "sleep" "Book.sleep" (defArgs S_Bsleep) (defBody S_Bsleep) (defScope S_Bsleep) .none kvSl doSl pmSl anSl cdSl ctSl), osSl⟩)
    (l2Sl : PySem.W.codeIn K cdSl "Book.sleep" = true)
    (l3Sl : PySem.W.keepIn K (.ref fSl) = true)
    (aT : PySem.W.nsIn K mainGlobals "TooMany" = some (some (.ref CT)))
    (aS : PySem.W.nsIn K mainGlobals "SleepError" = some (some (.ref CS)))
    (xT : K.lookup CT = some (excClassObj nmT qT CT NT bsT [.ref CS, .type "ValueError", .type "Exception", .type "BaseException", .type "object"] true snT subT abT colT ddT m0 m1 m2 m3 m5 "ValueError.__new__"))
    (saT : PySem.W.findIn K (.ref CT) "__setattr__" = some (some (.builtin "object.__setattr__")))
    (eT : PySem.W.subIn K (.ref CT) (.type "BaseException") = some true)
    (tT : PySem.W.typeIn K (.ref CT) = some (.type "type"))
    (kT : PySem.W.keepIn K (.ref CT) = true)
    (iT : PySem.W.isClsIn K CT = true)
    (sT : PySem.W.subIn K (.ref CT) (.ref CT) = some true)
    (nT : PySem.W.findIn K (.ref CT) "most" = some none)
    (aTi : PySem.W.findIn K (.ref CT) "__init__" = some (some (.ref fTi)))
    (tTi : PySem.W.typeIn K (.ref fTi) = some (.type "function"))
    (l1Ti : K.lookup fTi = some ⟨ocTi, odTi, .func (PySem.W.fnOf "__init__" "TooMany.__init__" (defArgs S_TooMany_init) (defBody S_TooMany_init) (defScope S_TooMany_init) .none kvTi doTi pmTi anTi cdTi ctTi), osTi⟩)
    (l2Ti : PySem.W.codeIn K cdTi "TooMany.__init__" = true)
    (l3Ti : PySem.W.keepIn K (.ref fTi) = true)
    (rdS : PySem.W.readsIn K CS (.type "type") = true)
    (gaS : PySem.W.specialIn K (.ref CS) "__getattribute__" = some (some (.builtin "type.__getattribute__")))
    (vS : PySem.W.findCls K (.ref CS) (.type "type") "__init__" = some (.val (.builtin "ValueError.__init__")))
    (a_is_whole : PySem.W.nsIn K mainGlobals "is_whole" = some (some (.ref f_is_whole)))
    (l1_is_whole : K.lookup f_is_whole = some ⟨oc_is_whole, od_is_whole, .func (PySem.W.fnOf "is_whole" "is_whole" (defArgs S_is_whole) (defBody S_is_whole) (defScope S_is_whole) .none kv_is_whole do_is_whole pm_is_whole an_is_whole cd_is_whole ct_is_whole), os_is_whole⟩)
    (l2_is_whole : PySem.W.codeIn K cd_is_whole "is_whole" = true)
    (l3_is_whole : PySem.W.keepIn K (.ref f_is_whole) = true)
    (a_is_between : PySem.W.nsIn K mainGlobals "is_between" = some (some (.ref f_is_between)))
    (l1_is_between : K.lookup f_is_between = some ⟨oc_is_between, od_is_between, .func (PySem.W.fnOf "is_between" "is_between" (defArgs S_is_between) (defBody S_is_between) (defScope S_is_between) .none kv_is_between do_is_between pm_is_between an_is_between cd_is_between ct_is_between), os_is_between⟩)
    (l2_is_between : PySem.W.codeIn K cd_is_between "is_between" = true)
    (l3_is_between : PySem.W.keepIn K (.ref f_is_between) = true)
    (a_is_length : PySem.W.nsIn K mainGlobals "is_length" = some (some (.ref f_is_length)))
    (l1_is_length : K.lookup f_is_length = some ⟨oc_is_length, od_is_length, .func (PySem.W.fnOf "is_length" "is_length" (defArgs S_is_length) (defBody S_is_length) (defScope S_is_length) .none kv_is_length do_is_length pm_is_length an_is_length cd_is_length ct_is_length), os_is_length⟩)
    (l2_is_length : PySem.W.codeIn K cd_is_length "is_length" = true)
    (l3_is_length : PySem.W.keepIn K (.ref f_is_length) = true)
    (a_with_calls : PySem.W.nsIn K mainGlobals "with_calls" = some (some (.ref f_with_calls)))
    (l1_with_calls : K.lookup f_with_calls = some ⟨oc_with_calls, od_with_calls, .func (PySem.W.fnOf "with_calls" "with_calls" (defArgs S_with_calls) (defBody S_with_calls) (defScope S_with_calls) .none kv_with_calls do_with_calls pm_with_calls an_with_calls cd_with_calls ct_with_calls), os_with_calls⟩)
    (l2_with_calls : PySem.W.codeIn K cd_with_calls "with_calls" = true)
    (l3_with_calls : PySem.W.keepIn K (.ref f_with_calls) = true)
    (a_looks : PySem.W.nsIn K mainGlobals "looks" = some (some (.ref f_looks)))
    (l1_looks : K.lookup f_looks = some ⟨oc_looks, od_looks, .func (PySem.W.fnOf "looks" "looks" (defArgs S_looks) (defBody S_looks) (defScope S_looks) .none kv_looks do_looks pm_looks an_looks cd_looks ct_looks), os_looks⟩)
    (l2_looks : PySem.W.codeIn K cd_looks "looks" = true)
    (l3_looks : PySem.W.keepIn K (.ref f_looks) = true)
    (a_beat : PySem.W.nsIn K mainGlobals "beat" = some (some (.ref f_beat)))
    (l1_beat : K.lookup f_beat = some ⟨oc_beat, od_beat, .func (PySem.W.fnOf "beat" "beat" (defArgs S_beat) (defBody S_beat) (defScope S_beat) .none kv_beat do_beat pm_beat an_beat cd_beat ct_beat), os_beat⟩)
    (l2_beat : PySem.W.codeIn K cd_beat "beat" = true)
    (l3_beat : PySem.W.keepIn K (.ref f_beat) = true)
    (a_called : PySem.W.nsIn K mainGlobals "called" = some (some (.ref f_called)))
    (l1_called : K.lookup f_called = some ⟨oc_called, od_called, .func (PySem.W.fnOf "called" "called" (defArgs S_called) (defBody S_called) (defScope S_called) .none kv_called do_called pm_called an_called cd_called ct_called), os_called⟩)
    (l2_called : PySem.W.codeIn K cd_called "called" = true)
    (l3_called : PySem.W.keepIn K (.ref f_called) = true)
    (a_both_behind : PySem.W.nsIn K mainGlobals "both_behind" = some (some (.ref f_both_behind)))
    (l1_both_behind : K.lookup f_both_behind = some ⟨oc_both_behind, od_both_behind, .func (PySem.W.fnOf "both_behind" "both_behind" (defArgs S_both_behind) (defBody S_both_behind) (defScope S_both_behind) .none kv_both_behind do_both_behind pm_both_behind an_both_behind cd_both_behind ct_both_behind), os_both_behind⟩)
    (l2_both_behind : PySem.W.codeIn K cd_both_behind "both_behind" = true)
    (l3_both_behind : PySem.W.keepIn K (.ref f_both_behind) = true)
    (a_row_to : PySem.W.nsIn K mainGlobals "row_to" = some (some (.ref f_row_to)))
    (l1_row_to : K.lookup f_row_to = some ⟨oc_row_to, od_row_to, .func (PySem.W.fnOf "row_to" "row_to" (defArgs S_row_to) (defBody S_row_to) (defScope S_row_to) .none kv_row_to do_row_to pm_row_to an_row_to cd_row_to ct_row_to), os_row_to⟩)
    (l2_row_to : PySem.W.codeIn K cd_row_to "row_to" = true)
    (l3_row_to : PySem.W.keepIn K (.ref f_row_to) = true)
    (a_told_apart : PySem.W.nsIn K mainGlobals "told_apart" = some (some (.ref f_told_apart)))
    (l1_told_apart : K.lookup f_told_apart = some ⟨oc_told_apart, od_told_apart, .func (PySem.W.fnOf "told_apart" "told_apart" (defArgs S_told_apart) (defBody S_told_apart) (defScope S_told_apart) .none kv_told_apart do_told_apart pm_told_apart an_told_apart cd_told_apart ct_told_apart), os_told_apart⟩)
    (l2_told_apart : PySem.W.codeIn K cd_told_apart "told_apart" = true)
    (l3_told_apart : PySem.W.keepIn K (.ref f_told_apart) = true)
    (a_is_standing : PySem.W.nsIn K mainGlobals "is_standing" = some (some (.ref f_is_standing)))
    (l1_is_standing : K.lookup f_is_standing = some ⟨oc_is_standing, od_is_standing, .func (PySem.W.fnOf "is_standing" "is_standing" (defArgs S_is_standing) (defBody S_is_standing) (defScope S_is_standing) .none kv_is_standing do_is_standing pm_is_standing an_is_standing cd_is_standing ct_is_standing), os_is_standing⟩)
    (l2_is_standing : PySem.W.codeIn K cd_is_standing "is_standing" = true)
    (l3_is_standing : PySem.W.keepIn K (.ref f_is_standing) = true)
    (a_is_pair : PySem.W.nsIn K mainGlobals "is_pair" = some (some (.ref f_is_pair)))
    (l1_is_pair : K.lookup f_is_pair = some ⟨oc_is_pair, od_is_pair, .func (PySem.W.fnOf "is_pair" "is_pair" (defArgs S_is_pair) (defBody S_is_pair) (defScope S_is_pair) .none kv_is_pair do_is_pair pm_is_pair an_is_pair cd_is_pair ct_is_pair), os_is_pair⟩)
    (l2_is_pair : PySem.W.codeIn K cd_is_pair "is_pair" = true)
    (l3_is_pair : PySem.W.keepIn K (.ref f_is_pair) = true)
    (a_are_pairs : PySem.W.nsIn K mainGlobals "are_pairs" = some (some (.ref f_are_pairs)))
    (l1_are_pairs : K.lookup f_are_pairs = some ⟨oc_are_pairs, od_are_pairs, .func (PySem.W.fnOf "are_pairs" "are_pairs" (defArgs S_are_pairs) (defBody S_are_pairs) (defScope S_are_pairs) .none kv_are_pairs do_are_pairs pm_are_pairs an_are_pairs cd_are_pairs ct_are_pairs), os_are_pairs⟩)
    (l2_are_pairs : PySem.W.codeIn K cd_are_pairs "are_pairs" = true)
    (l3_are_pairs : PySem.W.keepIn K (.ref f_are_pairs) = true)
    (a_groups_of : PySem.W.nsIn K mainGlobals "groups_of" = some (some (.ref f_groups_of)))
    (l1_groups_of : K.lookup f_groups_of = some ⟨oc_groups_of, od_groups_of, .func (PySem.W.fnOf "groups_of" "groups_of" (defArgs S_groups_of) (defBody S_groups_of) (defScope S_groups_of) .none kv_groups_of do_groups_of pm_groups_of an_groups_of cd_groups_of ct_groups_of), os_groups_of⟩)
    (l2_groups_of : PySem.W.codeIn K cd_groups_of "groups_of" = true)
    (l3_groups_of : PySem.W.keepIn K (.ref f_groups_of) = true)
    (a_meets : PySem.W.nsIn K mainGlobals "meets" = some (some (.ref f_meets)))
    (l1_meets : K.lookup f_meets = some ⟨oc_meets, od_meets, .func (PySem.W.fnOf "meets" "meets" (defArgs S_meets) (defBody S_meets) (defScope S_meets) .none kv_meets do_meets pm_meets an_meets cd_meets ct_meets), os_meets⟩)
    (l2_meets : PySem.W.codeIn K cd_meets "meets" = true)
    (l3_meets : PySem.W.keepIn K (.ref f_meets) = true)
    (a_lot_of : PySem.W.nsIn K mainGlobals "lot_of" = some (some (.ref f_lot_of)))
    (l1_lot_of : K.lookup f_lot_of = some ⟨oc_lot_of, od_lot_of, .func (PySem.W.fnOf "lot_of" "lot_of" (defArgs S_lot_of) (defBody S_lot_of) (defScope S_lot_of) .none kv_lot_of do_lot_of pm_lot_of an_lot_of cd_lot_of ct_lot_of), os_lot_of⟩)
    (l2_lot_of : PySem.W.codeIn K cd_lot_of "lot_of" = true)
    (l3_lot_of : PySem.W.keepIn K (.ref f_lot_of) = true)
    (a_costs_of : PySem.W.nsIn K mainGlobals "costs_of" = some (some (.ref f_costs_of)))
    (l1_costs_of : K.lookup f_costs_of = some ⟨oc_costs_of, od_costs_of, .func (PySem.W.fnOf "costs_of" "costs_of" (defArgs S_costs_of) (defBody S_costs_of) (defScope S_costs_of) .none kv_costs_of do_costs_of pm_costs_of an_costs_of cd_costs_of ct_costs_of), os_costs_of⟩)
    (l2_costs_of : PySem.W.codeIn K cd_costs_of "costs_of" = true)
    (l3_costs_of : PySem.W.keepIn K (.ref f_costs_of) = true)
    (a_told_prices : PySem.W.nsIn K mainGlobals "told_prices" = some (some (.ref f_told_prices)))
    (l1_told_prices : K.lookup f_told_prices = some ⟨oc_told_prices, od_told_prices, .func (PySem.W.fnOf "told_prices" "told_prices" (defArgs S_told_prices) (defBody S_told_prices) (defScope S_told_prices) .none kv_told_prices do_told_prices pm_told_prices an_told_prices cd_told_prices ct_told_prices), os_told_prices⟩)
    (l2_told_prices : PySem.W.codeIn K cd_told_prices "told_prices" = true)
    (l3_told_prices : PySem.W.keepIn K (.ref f_told_prices) = true)
    (a_prices : PySem.W.nsIn K mainGlobals "prices" = some (some (.ref f_prices)))
    (l1_prices : K.lookup f_prices = some ⟨oc_prices, od_prices, .func (PySem.W.fnOf "prices" "prices" (defArgs S_prices) (defBody S_prices) (defScope S_prices) .none kv_prices do_prices pm_prices an_prices cd_prices ct_prices), os_prices⟩)
    (l2_prices : PySem.W.codeIn K cd_prices "prices" = true)
    (l3_prices : PySem.W.keepIn K (.ref f_prices) = true)
    (a__law_bag : PySem.W.nsIn K mainGlobals "_law_bag" = some (some (.ref f__law_bag)))
    (l1__law_bag : K.lookup f__law_bag = some ⟨oc__law_bag, od__law_bag, .func (PySem.W.fnOf "_law_bag" "_law_bag" (defArgs S__law_bag) (defBody S__law_bag) (defScope S__law_bag) .none kv__law_bag do__law_bag pm__law_bag an__law_bag cd__law_bag ct__law_bag), os__law_bag⟩)
    (l2__law_bag : PySem.W.codeIn K cd__law_bag "_law_bag" = true)
    (l3__law_bag : PySem.W.keepIn K (.ref f__law_bag) = true)
    (a__law_take : PySem.W.nsIn K mainGlobals "_law_take" = some (some (.ref f__law_take)))
    (l1__law_take : K.lookup f__law_take = some ⟨oc__law_take, od__law_take, .func (PySem.W.fnOf "_law_take" "_law_take" (defArgs S__law_take) (defBody S__law_take) (defScope S__law_take) .none kv__law_take do__law_take pm__law_take an__law_take cd__law_take ct__law_take), os__law_take⟩)
    (l2__law_take : PySem.W.codeIn K cd__law_take "_law_take" = true)
    (l3__law_take : PySem.W.keepIn K (.ref f__law_take) = true)
    (a__law_names : PySem.W.nsIn K mainGlobals "_law_names" = some (some (.ref f__law_names)))
    (l1__law_names : K.lookup f__law_names = some ⟨oc__law_names, od__law_names, .func (PySem.W.fnOf "_law_names" "_law_names" (defArgs S__law_names) (defBody S__law_names) (defScope S__law_names) .none kv__law_names do__law_names pm__law_names an__law_names cd__law_names ct__law_names), os__law_names⟩)
    (l2__law_names : PySem.W.codeIn K cd__law_names "_law_names" = true)
    (l3__law_names : PySem.W.keepIn K (.ref f__law_names) = true)
    (a__law_spans : PySem.W.nsIn K mainGlobals "_law_spans" = some (some (.ref f__law_spans)))
    (l1__law_spans : K.lookup f__law_spans = some ⟨oc__law_spans, od__law_spans, .func (PySem.W.fnOf "_law_spans" "_law_spans" (defArgs S__law_spans) (defBody S__law_spans) (defScope S__law_spans) .none kv__law_spans do__law_spans pm__law_spans an__law_spans cd__law_spans ct__law_spans), os__law_spans⟩)
    (l2__law_spans : PySem.W.codeIn K cd__law_spans "_law_spans" = true)
    (l3__law_spans : PySem.W.keepIn K (.ref f__law_spans) = true)
    (a__law_rests : PySem.W.nsIn K mainGlobals "_law_rests" = some (some (.ref f__law_rests)))
    (l1__law_rests : K.lookup f__law_rests = some ⟨oc__law_rests, od__law_rests, .func (PySem.W.fnOf "_law_rests" "_law_rests" (defArgs S__law_rests) (defBody S__law_rests) (defScope S__law_rests) .none kv__law_rests do__law_rests pm__law_rests an__law_rests cd__law_rests ct__law_rests), os__law_rests⟩)
    (l2__law_rests : PySem.W.codeIn K cd__law_rests "_law_rests" = true)
    (l3__law_rests : PySem.W.keepIn K (.ref f__law_rests) = true)
    (a__law_hall : PySem.W.nsIn K mainGlobals "_law_hall" = some (some (.ref f__law_hall)))
    (l1__law_hall : K.lookup f__law_hall = some ⟨oc__law_hall, od__law_hall, .func (PySem.W.fnOf "_law_hall" "_law_hall" (defArgs S__law_hall) (defBody S__law_hall) (defScope S__law_hall) .none kv__law_hall do__law_hall pm__law_hall an__law_hall cd__law_hall ct__law_hall), os__law_hall⟩)
    (l2__law_hall : PySem.W.codeIn K cd__law_hall "_law_hall" = true)
    (l3__law_hall : PySem.W.keepIn K (.ref f__law_hall) = true)
    (a__law_other_spans : PySem.W.nsIn K mainGlobals "_law_other_spans" = some (some (.ref f__law_other_spans)))
    (l1__law_other_spans : K.lookup f__law_other_spans = some ⟨oc__law_other_spans, od__law_other_spans, .func (PySem.W.fnOf "_law_other_spans" "_law_other_spans" (defArgs S__law_other_spans) (defBody S__law_other_spans) (defScope S__law_other_spans) .none kv__law_other_spans do__law_other_spans pm__law_other_spans an__law_other_spans cd__law_other_spans ct__law_other_spans), os__law_other_spans⟩)
    (l2__law_other_spans : PySem.W.codeIn K cd__law_other_spans "_law_other_spans" = true)
    (l3__law_other_spans : PySem.W.keepIn K (.ref f__law_other_spans) = true)
    (a__law_stand : PySem.W.nsIn K mainGlobals "_law_stand" = some (some (.ref f__law_stand)))
    (l1__law_stand : K.lookup f__law_stand = some ⟨oc__law_stand, od__law_stand, .func (PySem.W.fnOf "_law_stand" "_law_stand" (defArgs S__law_stand) (defBody S__law_stand) (defScope S__law_stand) .none kv__law_stand do__law_stand pm__law_stand an__law_stand cd__law_stand ct__law_stand), os__law_stand⟩)
    (l2__law_stand : PySem.W.codeIn K cd__law_stand "_law_stand" = true)
    (l3__law_stand : PySem.W.keepIn K (.ref f__law_stand) = true)
    (a__law_after : PySem.W.nsIn K mainGlobals "_law_after" = some (some (.ref f__law_after)))
    (l1__law_after : K.lookup f__law_after = some ⟨oc__law_after, od__law_after, .func (PySem.W.fnOf "_law_after" "_law_after" (defArgs S__law_after) (defBody S__law_after) (defScope S__law_after) .none kv__law_after do__law_after pm__law_after an__law_after cd__law_after ct__law_after), os__law_after⟩)
    (l2__law_after : PySem.W.codeIn K cd__law_after "_law_after" = true)
    (l3__law_after : PySem.W.keepIn K (.ref f__law_after) = true)
    (a__law_called : PySem.W.nsIn K mainGlobals "_law_called" = some (some (.ref f__law_called)))
    (l1__law_called : K.lookup f__law_called = some ⟨oc__law_called, od__law_called, .func (PySem.W.fnOf "_law_called" "_law_called" (defArgs S__law_called) (defBody S__law_called) (defScope S__law_called) .none kv__law_called do__law_called pm__law_called an__law_called cd__law_called ct__law_called), os__law_called⟩)
    (l2__law_called : PySem.W.codeIn K cd__law_called "_law_called" = true)
    (l3__law_called : PySem.W.keepIn K (.ref f__law_called) = true)
    (a__law_strokes : PySem.W.nsIn K mainGlobals "_law_strokes" = some (some (.ref f__law_strokes)))
    (l1__law_strokes : K.lookup f__law_strokes = some ⟨oc__law_strokes, od__law_strokes, .func (PySem.W.fnOf "_law_strokes" "_law_strokes" (defArgs S__law_strokes) (defBody S__law_strokes) (defScope S__law_strokes) .none kv__law_strokes do__law_strokes pm__law_strokes an__law_strokes cd__law_strokes ct__law_strokes), os__law_strokes⟩)
    (l2__law_strokes : PySem.W.codeIn K cd__law_strokes "_law_strokes" = true)
    (l3__law_strokes : PySem.W.keepIn K (.ref f__law_strokes) = true)
    (a__law_halls : PySem.W.nsIn K mainGlobals "_law_halls" = some (some (.ref f__law_halls)))
    (l1__law_halls : K.lookup f__law_halls = some ⟨oc__law_halls, od__law_halls, .func (PySem.W.fnOf "_law_halls" "_law_halls" (defArgs S__law_halls) (defBody S__law_halls) (defScope S__law_halls) .none kv__law_halls do__law_halls pm__law_halls an__law_halls cd__law_halls ct__law_halls), os__law_halls⟩)
    (l2__law_halls : PySem.W.codeIn K cd__law_halls "_law_halls" = true)
    (l3__law_halls : PySem.W.keepIn K (.ref f__law_halls) = true)
    (a__law_gone : PySem.W.nsIn K mainGlobals "_law_gone" = some (some (.ref f__law_gone)))
    (l1__law_gone : K.lookup f__law_gone = some ⟨oc__law_gone, od__law_gone, .func (PySem.W.fnOf "_law_gone" "_law_gone" (defArgs S__law_gone) (defBody S__law_gone) (defScope S__law_gone) .none kv__law_gone do__law_gone pm__law_gone an__law_gone cd__law_gone ct__law_gone), os__law_gone⟩)
    (l2__law_gone : PySem.W.codeIn K cd__law_gone "_law_gone" = true)
    (l3__law_gone : PySem.W.keepIn K (.ref f__law_gone) = true)
    (a__law_shorter : PySem.W.nsIn K mainGlobals "_law_shorter" = some (some (.ref f__law_shorter)))
    (l1__law_shorter : K.lookup f__law_shorter = some ⟨oc__law_shorter, od__law_shorter, .func (PySem.W.fnOf "_law_shorter" "_law_shorter" (defArgs S__law_shorter) (defBody S__law_shorter) (defScope S__law_shorter) .none kv__law_shorter do__law_shorter pm__law_shorter an__law_shorter cd__law_shorter ct__law_shorter), os__law_shorter⟩)
    (l2__law_shorter : PySem.W.codeIn K cd__law_shorter "_law_shorter" = true)
    (l3__law_shorter : PySem.W.keepIn K (.ref f__law_shorter) = true)
    (a__law_parted_right : PySem.W.nsIn K mainGlobals "_law_parted_right" = some (some (.ref f__law_parted_right)))
    (l1__law_parted_right : K.lookup f__law_parted_right = some ⟨oc__law_parted_right, od__law_parted_right, .func (PySem.W.fnOf "_law_parted_right" "_law_parted_right" (defArgs S__law_parted_right) (defBody S__law_parted_right) (defScope S__law_parted_right) .none kv__law_parted_right do__law_parted_right pm__law_parted_right an__law_parted_right cd__law_parted_right ct__law_parted_right), os__law_parted_right⟩)
    (l2__law_parted_right : PySem.W.codeIn K cd__law_parted_right "_law_parted_right" = true)
    (l3__law_parted_right : PySem.W.keepIn K (.ref f__law_parted_right) = true)
    (a__law_alike_right : PySem.W.nsIn K mainGlobals "_law_alike_right" = some (some (.ref f__law_alike_right)))
    (l1__law_alike_right : K.lookup f__law_alike_right = some ⟨oc__law_alike_right, od__law_alike_right, .func (PySem.W.fnOf "_law_alike_right" "_law_alike_right" (defArgs S__law_alike_right) (defBody S__law_alike_right) (defScope S__law_alike_right) .none kv__law_alike_right do__law_alike_right pm__law_alike_right an__law_alike_right cd__law_alike_right ct__law_alike_right), os__law_alike_right⟩)
    (l2__law_alike_right : PySem.W.codeIn K cd__law_alike_right "_law_alike_right" = true)
    (l3__law_alike_right : PySem.W.keepIn K (.ref f__law_alike_right) = true)
    (a_law : PySem.W.nsIn K mainGlobals "law" = some (some (.ref f_law)))
    (l1_law : K.lookup f_law = some ⟨oc_law, od_law, .func (PySem.W.fnOf "law" "law" (defArgs S_law) (defBody S_law) (defScope S_law) .none kv_law do_law pm_law an_law cd_law ct_law), os_law⟩)
    (l2_law : PySem.W.codeIn K cd_law "law" = true)
    (l3_law : PySem.W.keepIn K (.ref f_law) = true)
    : ∃ fd : FuncData, (∀ (s : Shared) (v : Value), BindsTo s fd ⟨[v], []⟩ [("_law_script", v)]) ∧ ∀ base : Heap, K.In base → base.Ns mainGlobals mg → FnOk P w K mg base CX0 8 fa fd ["_law_script"] (spLaw K) := by
  have e := hfa.symm.trans (PySem.W.mg_of X G a_law)
  cases e
  have T : Txt K mg C := { b_len := PySem.W.mg_none_of X G z_len, b_tuple := PySem.W.mg_none_of X G z_tuple, b_list := PySem.W.mg_none_of X G z_list, b_int := PySem.W.mg_none_of X G z_int, b_bool := PySem.W.mg_none_of X G z_bool, b_str := PySem.W.mg_none_of X G z_str, b_isinstance := PySem.W.mg_none_of X G z_isinstance, b_enumerate := PySem.W.mg_none_of X G z_enumerate, b_zip := PySem.W.mg_none_of X G z_zip, b_reversed := PySem.W.mg_none_of X G z_reversed, b_range := PySem.W.mg_none_of X G z_range, b_min := PySem.W.mg_none_of X G z_min, b_max := PySem.W.mg_none_of X G z_max, b_abs := PySem.W.mg_none_of X G z_abs, b_dict := PySem.W.mg_none_of X G z_dict, b_all := PySem.W.mg_none_of X G z_all, b_sorted := PySem.W.mg_none_of X G z_sorted, b_set := PySem.W.mg_none_of X G z_set, ML := ⟨tL, PySem.W.mg_of X G gL⟩, MS := ⟨tS, PySem.W.mg_of X G gS⟩, clB := ⟨pgB, hdB, poB, saB⟩, nR := nR, mBook := PySem.W.mg_of X G aB }
  have TM : TMt K mg CT CS fTi := { ox := ⟨⟨nmT, qT, NT, bsT, _, snT, subT, abT, colT, ddT, m0, m1, m2, m3, m5, xT, rfl⟩, saT, eT, tT, kT⟩, iC := aTi, tI := tTi, m := PySem.W.mg_of X G aT, no := nT, mS := PySem.W.mg_of X G aS, rd := rdS, ga := gaS, vV := vS }
  have exm := exm_own eT iT tT sT
  have FI := fun_mk (st := S_Binit) l1I l2I l3I
  have FSl := fun_mk (st := S_Bsleep) l1Sl l2Sl l3Sl
  have FTi := fun_mk (st := S_TooMany_init) l1Ti l2Ti l3Ti
  have bI := FI.binds (ps := ["self", "lengths"]) fun _ _ _ _ _ _ us hl => match us, hl with | [_, _], _ => rfl
  have bSl := FSl.binds (ps := ["self", "many"]) fun _ _ _ _ _ _ us hl => match us, hl with | [_, _], _ => rfl
  have bTi := FTi.binds (ps := ["self", "most"]) fun _ _ _ _ _ _ us hl => match us, hl with | [_, _], _ => rfl
  have F_is_whole := fun_mk (st := S_is_whole) l1_is_whole l2_is_whole l3_is_whole
  have b_is_whole := F_is_whole.binds (ps := ["thing"]) fun _ _ _ _ _ _ us hl => match us, hl with | [_], _ => rfl
  have F_is_between := fun_mk (st := S_is_between) l1_is_between l2_is_between l3_is_between
  have b_is_between := F_is_between.binds (ps := ["thing", "low", "high"]) fun _ _ _ _ _ _ us hl => match us, hl with | [_, _, _], _ => rfl
  have F_is_length := fun_mk (st := S_is_length) l1_is_length l2_is_length l3_is_length
  have b_is_length := F_is_length.binds (ps := ["thing"]) fun _ _ _ _ _ _ us hl => match us, hl with | [_], _ => rfl
  have F_with_calls := fun_mk (st := S_with_calls) l1_with_calls l2_with_calls l3_with_calls
  have b_with_calls := F_with_calls.binds (ps := ["standing", "stroke"]) fun _ _ _ _ _ _ us hl => match us, hl with | [_, _], _ => rfl
  have F_looks := fun_mk (st := S_looks) l1_looks l2_looks l3_looks
  have b_looks := F_looks.binds (ps := ["names", "heard"]) fun _ _ _ _ _ _ us hl => match us, hl with | [_, _], _ => rfl
  have F_beat := fun_mk (st := S_beat) l1_beat l2_beat l3_beat
  have b_beat := F_beat.binds (ps := ["book", "standing"]) fun _ _ _ _ _ _ us hl => match us, hl with | [_, _], _ => rfl
  have F_called := fun_mk (st := S_called) l1_called l2_called l3_called
  have b_called := F_called.binds (ps := ["book", "standing", "stroke"]) fun _ _ _ _ _ _ us hl => match us, hl with | [_, _, _], _ => rfl
  have F_both_behind := fun_mk (st := S_both_behind) l1_both_behind l2_both_behind l3_both_behind
  have b_both_behind := F_both_behind.binds (ps := ["one", "other", "pair", "stroke", "heard"]) fun _ _ _ _ _ _ us hl => match us, hl with | [_, _, _, _, _], _ => rfl
  have F_row_to := fun_mk (st := S_row_to) l1_row_to l2_row_to l3_row_to
  have b_row_to := F_row_to.binds (ps := ["came", "strokes", "pair"]) fun _ _ _ _ _ _ us hl => match us, hl with | [_, _, _], _ => rfl
  have F_told_apart : FunD K "told_apart" "told_apart" (defArgs S_told_apart) (defBody S_told_apart) (defScope S_told_apart) [] [] f_told_apart _ := ⟨⟨_, _, _, _, _, _, _, _, _, _, rfl, l1_told_apart, l2_told_apart, .inl ⟨rfl, rfl⟩, .inl rfl⟩, l3_told_apart⟩
  have F_is_standing := fun_mk (st := S_is_standing) l1_is_standing l2_is_standing l3_is_standing
  have b_is_standing := F_is_standing.binds (ps := ["thing", "names"]) fun _ _ _ _ _ _ us hl => match us, hl with | [_, _], _ => rfl
  have F_is_pair := fun_mk (st := S_is_pair) l1_is_pair l2_is_pair l3_is_pair
  have b_is_pair := F_is_pair.binds (ps := ["thing", "names"]) fun _ _ _ _ _ _ us hl => match us, hl with | [_, _], _ => rfl
  have F_are_pairs : FunD K "are_pairs" "are_pairs" (defArgs S_are_pairs) (defBody S_are_pairs) (defScope S_are_pairs) [] [] f_are_pairs _ := ⟨⟨_, _, _, _, _, _, _, _, _, _, rfl, l1_are_pairs, l2_are_pairs, .inl ⟨rfl, rfl⟩, .inl rfl⟩, l3_are_pairs⟩
  have F_groups_of := fun_mk (st := S_groups_of) l1_groups_of l2_groups_of l3_groups_of
  have b_groups_of := F_groups_of.binds (ps := ["standing"]) fun _ _ _ _ _ _ us hl => match us, hl with | [_], _ => rfl
  have F_meets := fun_mk (st := S_meets) l1_meets l2_meets l3_meets
  have b_meets := F_meets.binds (ps := ["standing", "wish"]) fun _ _ _ _ _ _ us hl => match us, hl with | [_, _], _ => rfl
  have F_lot_of := fun_mk (st := S_lot_of) l1_lot_of l2_lot_of l3_lot_of
  have b_lot_of := F_lot_of.binds (ps := ["book", "standing", "strokes", "most"]) fun _ _ _ _ _ _ us hl => match us, hl with | [_, _, _, _], _ => rfl
  have F_costs_of := fun_mk (st := S_costs_of) l1_costs_of l2_costs_of l3_costs_of
  have b_costs_of := F_costs_of.binds (ps := ["ways", "strokes", "wish"]) fun _ _ _ _ _ _ us hl => match us, hl with | [_, _, _], _ => rfl
  have F_told_prices := fun_mk (st := S_told_prices) l1_told_prices l2_told_prices l3_told_prices
  have b_told_prices := F_told_prices.binds (ps := ["ways", "costs"]) fun _ _ _ _ _ _ us hl => match us, hl with | [_, _], _ => rfl
  have F_prices : FunD K "prices" "prices" (defArgs S_prices) (defBody S_prices) (defScope S_prices) [] [] f_prices _ := ⟨⟨_, _, _, _, _, _, _, _, _, _, rfl, l1_prices, l2_prices, .inl ⟨rfl, rfl⟩, .inl rfl⟩, l3_prices⟩
  have F__law_bag := fun_mk (st := S__law_bag) l1__law_bag l2__law_bag l3__law_bag
  have b__law_bag := F__law_bag.binds (ps := ["_law_script"]) fun _ _ _ _ _ _ us hl => match us, hl with | [_], _ => rfl
  have F__law_take := fun_mk (st := S__law_take) l1__law_take l2__law_take l3__law_take
  have b__law_take := F__law_take.binds (ps := ["_law_bag_here", "_law_many"]) fun _ _ _ _ _ _ us hl => match us, hl with | [_, _], _ => rfl
  have F__law_names := fun_mk (st := S__law_names) l1__law_names l2__law_names l3__law_names
  have b__law_names := F__law_names.binds (ps := ["_law_bag_here", "_law_many"]) fun _ _ _ _ _ _ us hl => match us, hl with | [_, _], _ => rfl
  have F__law_spans := fun_mk (st := S__law_spans) l1__law_spans l2__law_spans l3__law_spans
  have b__law_spans := F__law_spans.binds (ps := ["_law_bag_here", "_law_many", "_law_top"]) fun _ _ _ _ _ _ us hl => match us, hl with | [_, _, _], _ => rfl
  have F__law_rests := fun_mk (st := S__law_rests) l1__law_rests l2__law_rests l3__law_rests
  have b__law_rests := F__law_rests.binds (ps := ["_law_bag_here", "_law_many", "_law_top"]) fun _ _ _ _ _ _ us hl => match us, hl with | [_, _, _], _ => rfl
  have F__law_hall := fun_mk (st := S__law_hall) l1__law_hall l2__law_hall l3__law_hall
  have b__law_hall := F__law_hall.binds (ps := ["_law_bag_here", "_law_many", "_law_top", "_law_longest"]) fun _ _ _ _ _ _ us hl => match us, hl with | [_, _, _, _], _ => rfl
  have F__law_other_spans := fun_mk (st := S__law_other_spans) l1__law_other_spans l2__law_other_spans l3__law_other_spans
  have b__law_other_spans := F__law_other_spans.binds (ps := ["_law_bag_here", "_law_spans_here", "_law_top"]) fun _ _ _ _ _ _ us hl => match us, hl with | [_, _, _], _ => rfl
  have F__law_stand := fun_mk (st := S__law_stand) l1__law_stand l2__law_stand l3__law_stand
  have b__law_stand := F__law_stand.binds (ps := ["_law_rests_here"]) fun _ _ _ _ _ _ us hl => match us, hl with | [_], _ => rfl
  have F__law_after := fun_mk (st := S__law_after) l1__law_after l2__law_after l3__law_after
  have b__law_after := F__law_after.binds (ps := ["_law_spans_here", "_law_rests_here"]) fun _ _ _ _ _ _ us hl => match us, hl with | [_, _], _ => rfl
  have F__law_called := fun_mk (st := S__law_called) l1__law_called l2__law_called l3__law_called
  have b__law_called := F__law_called.binds (ps := ["_law_spans_here", "_law_stand_here", "_law_stroke"]) fun _ _ _ _ _ _ us hl => match us, hl with | [_, _, _], _ => rfl
  have F__law_strokes := fun_mk (st := S__law_strokes) l1__law_strokes l2__law_strokes l3__law_strokes
  have b__law_strokes := F__law_strokes.binds (ps := ["_law_bag_here", "_law_names_here", "_law_bound"]) fun _ _ _ _ _ _ us hl => match us, hl with | [_, _, _], _ => rfl
  have F__law_halls := fun_mk (st := S__law_halls) l1__law_halls l2__law_halls l3__law_halls
  have b__law_halls := F__law_halls.binds (ps := ["_law_bag_here", "_law_size", "_law_top", "_law_longest"]) fun _ _ _ _ _ _ us hl => match us, hl with | [_, _, _, _], _ => rfl
  have F__law_gone := fun_mk (st := S__law_gone) l1__law_gone l2__law_gone l3__law_gone
  have b__law_gone := F__law_gone.binds (ps := ["_law_spans_here", "_law_others", "_law_stands", "_law_row", "_law_counted"]) fun _ _ _ _ _ _ us hl => match us, hl with | [_, _, _, _, _], _ => rfl
  have F__law_shorter := fun_mk (st := S__law_shorter) l1__law_shorter l2__law_shorter l3__law_shorter
  have b__law_shorter := F__law_shorter.binds (ps := ["_law_strokes_here", "_law_size"]) fun _ _ _ _ _ _ us hl => match us, hl with | [_, _], _ => rfl
  have F__law_parted_right := fun_mk (st := S__law_parted_right) l1__law_parted_right l2__law_parted_right l3__law_parted_right
  have b__law_parted_right := F__law_parted_right.binds (ps := ["_law_spans_here", "_law_others", "_law_stands", "_law_strokes_here", "_law_counted", "_law_row"]) fun _ _ _ _ _ _ us hl => match us, hl with | [_, _, _, _, _, _], _ => rfl
  have F__law_alike_right := fun_mk (st := S__law_alike_right) l1__law_alike_right l2__law_alike_right l3__law_alike_right
  have b__law_alike_right := F__law_alike_right.binds (ps := ["_law_bag_here", "_law_spans_here", "_law_others", "_law_stands", "_law_strokes_here", "_law_counted", "_law_pairs"]) fun _ _ _ _ _ _ us hl => match us, hl with | [_, _, _, _, _, _, _], _ => rfl
  have F_law := fun_mk (st := S_law) l1_law l2_law l3_law
  refine ⟨PySem.W.fnOf "law" "law" (defArgs S_law) (defBody S_law) (defScope S_law) .none kv_law do_law pm_law an_law cd_law ct_law, fun s v => .of_eq rfl, fun base _ _ => ?_⟩
  · have Gtm : FnOk P w K mg base CX0 1 fTi _ ["self", "most"] (sp_tm CT) := ok_tm FTi TM
    have Dis_whole : Fd P w K mg base CX0 1 "is_whole" f_is_whole _ ["thing"] sp_whole := ⟨PySem.W.mg_of X G a_is_whole, l3_is_whole, ok_whole F_is_whole T , b_is_whole⟩
    have Dis_between : Fd P w K mg base CX0 2 "is_between" f_is_between _ ["thing", "low", "high"] sp_between := ⟨PySem.W.mg_of X G a_is_between, l3_is_between, ok_between F_is_between T Dis_whole, b_is_between⟩
    have Dis_length : Fd P w K mg base CX0 3 "is_length" f_is_length _ ["thing"] sp_length := ⟨PySem.W.mg_of X G a_is_length, l3_is_length, ok_length F_is_length T Dis_between, b_is_length⟩
    have Dwith_calls : Fd P w K mg base CX0 1 "with_calls" f_with_calls _ ["standing", "stroke"] sp_with := ⟨PySem.W.mg_of X G a_with_calls, l3_with_calls, ok_with F_with_calls T , b_with_calls⟩
    have Dlooks : Fd P w K mg base CX0 1 "looks" f_looks _ ["names", "heard"] sp_looks := ⟨PySem.W.mg_of X G a_looks, l3_looks, ok_looks F_looks T , b_looks⟩
    have mSl : Meth K C "sleep" fSl := ⟨aSl, iSl, l3Sl⟩
    have Gsl : FnOk P w K mg base CX0 3 fSl _ ["self", "many"] (sp_sleep C) := ok_sleep FSl T Dis_between
    have Gbk : FnOk P w K mg base CX0 4 fBk _ ["self", "lengths"] (sp_init C K) := ok_init FI T Dis_length
    have Dbeat : Fd P w K mg base CX0 4 "beat" f_beat _ ["book", "standing"] (sp_beat C) := ⟨PySem.W.mg_of X G a_beat, l3_beat, ok_beat F_beat T mSl Gsl bSl, b_beat⟩
    have Dcalled : Fd P w K mg base CX0 5 "called" f_called _ ["book", "standing", "stroke"] (sp_called C) := ⟨PySem.W.mg_of X G a_called, l3_called, ok_called F_called T Dbeat Dwith_calls, b_called⟩
    have Dboth_behind : Fd P w K mg base CX0 6 "both_behind" f_both_behind _ ["one", "other", "pair", "stroke", "heard"] (sp_both C) := ⟨PySem.W.mg_of X G a_both_behind, l3_both_behind, ok_both F_both_behind T Dcalled Dlooks, b_both_behind⟩
    have Drow_to : Fd P w K mg base CX0 1 "row_to" f_row_to _ ["came", "strokes", "pair"] (sp_row P w) := ⟨PySem.W.mg_of X G a_row_to, l3_row_to, ok_row F_row_to T , b_row_to⟩
    have Dtold_apart : FdN P w K mg base (L2.CX P w) 7 "told_apart" f_told_apart _ ["one", "first", "other", "second", "strokes", "heard", "most"] (sp_told C CT) 5 ["heard", "most"] := ⟨PySem.W.mg_of X G a_told_apart, l3_told_apart, ok_told F_told_apart T TM Gtm bTi Dboth_behind Drow_to, ⟨fun s us ws _ h1 h2 => match us, h1, ws, h2 with | [_, _, _, _, _], _, [_, _], _ => .of_eq rfl, fun r1 r2 => r1.append r2⟩⟩
    have Dis_standing : Fd P w K mg base CX0 2 "is_standing" f_is_standing _ ["thing", "names"] sp_stnd := ⟨PySem.W.mg_of X G a_is_standing, l3_is_standing, ok_stnd F_is_standing T Dis_whole, b_is_standing⟩
    have Dis_pair : Fd P w K mg base CX0 3 "is_pair" f_is_pair _ ["thing", "names"] sp_ispair := ⟨PySem.W.mg_of X G a_is_pair, l3_is_pair, ok_ispair F_is_pair T Dis_standing, b_is_pair⟩
    have Dare_pairs : FdN P w K mg base CX0 7 "are_pairs" f_are_pairs _ ["one", "first", "other", "second", "strokes", "thing", "heard"] (sp_are C) 6 ["heard"] := ⟨PySem.W.mg_of X G a_are_pairs, l3_are_pairs, ok_are F_are_pairs T Dis_pair Dboth_behind, ⟨fun s us ws _ h1 h2 => match us, h1, ws, h2 with | [_, _, _, _, _, _], _, [_], _ => .of_eq rfl, fun r1 r2 => r1.append r2⟩⟩
    have Dgroups_of : Fd P w K mg base CX0 1 "groups_of" f_groups_of _ ["standing"] sp_groups := ⟨PySem.W.mg_of X G a_groups_of, l3_groups_of, ok_groups F_groups_of T , b_groups_of⟩
    have Dmeets : Fd P w K mg base CX0 2 "meets" f_meets _ ["standing", "wish"] sp_meets := ⟨PySem.W.mg_of X G a_meets, l3_meets, ok_meets F_meets T Dgroups_of, b_meets⟩
    have Dlot_of : Fd P w K mg base (L2.CX P w) 6 "lot_of" f_lot_of _ ["book", "standing", "strokes", "most"] (sp_lot P w C CT) := ⟨PySem.W.mg_of X G a_lot_of, l3_lot_of, ok_lot F_lot_of T TM Gtm bTi Dcalled, b_lot_of⟩
    have Dcosts_of : Fd P w K mg base CX0 3 "costs_of" f_costs_of _ ["ways", "strokes", "wish"] (sp_costs P w) := ⟨PySem.W.mg_of X G a_costs_of, l3_costs_of, ok_costs F_costs_of T Dmeets, b_costs_of⟩
    have Dtold_prices : Fd P w K mg base CX0 1 "told_prices" f_told_prices _ ["ways", "costs"] (sp_tprices P w) := ⟨PySem.W.mg_of X G a_told_prices, l3_told_prices, ok_tprices F_told_prices T , b_told_prices⟩
    have Dprices : FdN P w K mg base (L2.CX P w) 7 "prices" f_prices _ ["book", "standing", "strokes", "wish", "most"] (sp_prices C CT) 4 ["most"] := ⟨PySem.W.mg_of X G a_prices, l3_prices, ok_prices F_prices T Dlot_of Dtold_prices Dcosts_of, ⟨fun s us ws _ h1 h2 => match us, h1, ws, h2 with | [_, _, _, _], _, [_], _ => .of_eq rfl, fun r1 r2 => r1.append r2⟩⟩
    have D_law_bag : Fd P w K mg base CX0 1 "_law_bag" f__law_bag _ ["_law_script"] (sp_bag K) := ⟨PySem.W.mg_of X G a__law_bag, l3__law_bag, ok_bag F__law_bag T , b__law_bag⟩
    have D_law_take : Fd P w K mg base CX0 1 "_law_take" f__law_take _ ["_law_bag_here", "_law_many"] sp_take := ⟨PySem.W.mg_of X G a__law_take, l3__law_take, ok_take F__law_take T , b__law_take⟩
    have D_law_names : Fd P w K mg base CX0 2 "_law_names" f__law_names _ ["_law_bag_here", "_law_many"] sp_names := ⟨PySem.W.mg_of X G a__law_names, l3__law_names, ok_names F__law_names T D_law_take, b__law_names⟩
    have D_law_spans : Fd P w K mg base CX0 2 "_law_spans" f__law_spans _ ["_law_bag_here", "_law_many", "_law_top"] sp_ints := ⟨PySem.W.mg_of X G a__law_spans, l3__law_spans, ok_spans F__law_spans T D_law_take, b__law_spans⟩
    have D_law_rests : Fd P w K mg base CX0 2 "_law_rests" f__law_rests _ ["_law_bag_here", "_law_many", "_law_top"] sp_ints := ⟨PySem.W.mg_of X G a__law_rests, l3__law_rests, ok_rests F__law_rests T D_law_take, b__law_rests⟩
    have D_law_hall : Fd P w K mg base CX0 3 "_law_hall" f__law_hall _ ["_law_bag_here", "_law_many", "_law_top", "_law_longest"] sp_hall := ⟨PySem.W.mg_of X G a__law_hall, l3__law_hall, ok_hall F__law_hall T D_law_take D_law_names D_law_spans D_law_rests, b__law_hall⟩
    have D_law_other_spans : Fd P w K mg base CX0 2 "_law_other_spans" f__law_other_spans _ ["_law_bag_here", "_law_spans_here", "_law_top"] sp_other := ⟨PySem.W.mg_of X G a__law_other_spans, l3__law_other_spans, ok_other F__law_other_spans T D_law_take, b__law_other_spans⟩
    have D_law_stand : Fd P w K mg base CX0 1 "_law_stand" f__law_stand _ ["_law_rests_here"] sp_stand := ⟨PySem.W.mg_of X G a__law_stand, l3__law_stand, ok_stand F__law_stand T , b__law_stand⟩
    have D_law_after : Fd P w K mg base CX0 1 "_law_after" f__law_after _ ["_law_spans_here", "_law_rests_here"] sp_after := ⟨PySem.W.mg_of X G a__law_after, l3__law_after, ok_after F__law_after T , b__law_after⟩
    have D_law_called : Fd P w K mg base CX0 2 "_law_called" f__law_called _ ["_law_spans_here", "_law_stand_here", "_law_stroke"] sp_lcalled := ⟨PySem.W.mg_of X G a__law_called, l3__law_called, ok_lcalled F__law_called T D_law_stand D_law_after, b__law_called⟩
    have D_law_strokes : Fd P w K mg base CX0 2 "_law_strokes" f__law_strokes _ ["_law_bag_here", "_law_names_here", "_law_bound"] sp_strokes := ⟨PySem.W.mg_of X G a__law_strokes, l3__law_strokes, ok_strokes F__law_strokes T D_law_take, b__law_strokes⟩
    have D_law_halls : Fd P w K mg base CX0 4 "_law_halls" f__law_halls _ ["_law_bag_here", "_law_size", "_law_top", "_law_longest"] sp_halls := ⟨PySem.W.mg_of X G a__law_halls, l3__law_halls, ok_halls F__law_halls T D_law_take D_law_hall D_law_other_spans D_law_stand D_law_strokes, b__law_halls⟩
    have D_law_gone : Fd P w K mg base CX0 3 "_law_gone" f__law_gone _ ["_law_spans_here", "_law_others", "_law_stands", "_law_row", "_law_counted"] sp_gone := ⟨PySem.W.mg_of X G a__law_gone, l3__law_gone, ok_gone F__law_gone T D_law_called, b__law_gone⟩
    have D_law_shorter : Fd P w K mg base CX0 1 "_law_shorter" f__law_shorter _ ["_law_strokes_here", "_law_size"] sp_shorter := ⟨PySem.W.mg_of X G a__law_shorter, l3__law_shorter, ok_shorter F__law_shorter T , b__law_shorter⟩
    have D_law_parted_right : Fd P w K mg base CX0 4 "_law_parted_right" f__law_parted_right _ ["_law_spans_here", "_law_others", "_law_stands", "_law_strokes_here", "_law_counted", "_law_row"] sp_parted := ⟨PySem.W.mg_of X G a__law_parted_right, l3__law_parted_right, ok_parted F__law_parted_right T D_law_gone D_law_shorter, b__law_parted_right⟩
    have D_law_alike_right : Fd P w K mg base CX0 4 "_law_alike_right" f__law_alike_right _ ["_law_bag_here", "_law_spans_here", "_law_others", "_law_stands", "_law_strokes_here", "_law_counted", "_law_pairs"] sp_alike := ⟨PySem.W.mg_of X G a__law_alike_right, l3__law_alike_right, ok_alike F__law_alike_right T D_law_take D_law_gone, b__law_alike_right⟩
    exact ok_law F_law T TM exm ⟨mkB, aI, iI, kB⟩ Gbk bI D_law_bag D_law_take D_law_halls D_law_parted_right D_law_alike_right Dtold_apart Dare_pairs Dprices
theorem walk {l : PySem.W.OpenLaw} {q : Program} {loose : List Str} {XP : (Str → Option Value) → Heap → Prop} {YP : World → Heap → Prop} {d : DefRec} {K : Params → PySem.W.Frag} (hn : l.most = some 63) (hdf : d.params.defaults = [])
    (hY : ∀ (w : World) (h : Heap), YP w h → (K w.params).In h)
    (F : ∀ (w : World) (mg : Str → Option Value) (fa : Addr) (h : Heap), (K w.params).In h → h.Ns mainGlobals mg → mg d.name = some (.ref fa) →
      ∃ fd : FuncData, (∀ (s : Shared) (u : Value), BindsTo s fd ⟨[u], []⟩ [("_law_script", u)]) ∧ ∀ base : Heap, (K w.params).In base → base.Ns mainGlobals mg → FnOk l.prog w (K w.params) mg base CX0 8 fa fd ["_law_script"] (spLaw (K w.params))) :
    PySem.W.WalkO q loose XP YP l.row.toRowW d [] (fun f vs => PySem.call f vs) :=
  L2.walk_of (n := 63) (k := 8) (x := "_law_script") (CX := fun _ => CX0) (sp := fun w => spLaw (K w.params)) hn (by decide) hdf ⟨rfl, by decide, by decide⟩ hY F (fun _ _ a ns hl _ hS => ⟨a, ns, rfl, hS, hl, fun _ => rfl⟩) fun _ _ _ _ _ z => z
end L2.K83
open PySem PySem.W PyProof.Rows
set_option maxRecDepth 100000 in
set_option maxHeartbeats 0 in
theorem PySem.Challenge.cw_sleepmany_k83_whole_alike_closed_holds : PySem.Challenge.rw_sleepmany_k83_whole_alike_closed.Holds := by
  w_on; o_law; k_head; (case hw => w_witness2)
  k_fill
  refine L2.K83.walk (l := PySem.Challenge.rw_sleepmany_k83_whole_alike_closed) rfl rfl (fun w h Y => PySem.W.kIn_of Y) ?F
  case F =>
    intro w mg fa h KX G hmg
    refine' L2.K83.all_mk KX G hmg ?z_len ?z_tuple ?z_list ?z_int ?z_bool ?z_str ?z_isinstance ?z_enumerate ?z_zip ?z_reversed ?z_range ?z_min ?z_max ?z_abs ?z_dict ?z_all ?z_sorted ?z_set ?gL ?gS ?aB ?pgB ?hdB ?poB ?saB ?mkB ?kB ?nR ?aI ?iI ?l1I ?l2I ?l3I ?aSl ?iSl ?l1Sl ?l2Sl ?l3Sl ?aT ?aS ?xT ?saT ?eT ?tT ?kT ?iT ?sT ?nT ?aTi ?tTi ?l1Ti ?l2Ti ?l3Ti ?rdS ?gaS ?vS ?a_is_whole ?l1_is_whole ?l2_is_whole ?l3_is_whole ?a_is_between ?l1_is_between ?l2_is_between ?l3_is_between ?a_is_length ?l1_is_length ?l2_is_length ?l3_is_length ?a_with_calls ?l1_with_calls ?l2_with_calls ?l3_with_calls ?a_looks ?l1_looks ?l2_looks ?l3_looks ?a_beat ?l1_beat ?l2_beat ?l3_beat ?a_called ?l1_called ?l2_called ?l3_called ?a_both_behind ?l1_both_behind ?l2_both_behind ?l3_both_behind ?a_row_to ?l1_row_to ?l2_row_to ?l3_row_to ?a_told_apart ?l1_told_apart ?l2_told_apart ?l3_told_apart ?a_is_standing ?l1_is_standing ?l2_is_standing ?l3_is_standing ?a_is_pair ?l1_is_pair ?l2_is_pair ?l3_is_pair ?a_are_pairs ?l1_are_pairs ?l2_are_pairs ?l3_are_pairs ?a_groups_of ?l1_groups_of ?l2_groups_of ?l3_groups_of ?a_meets ?l1_meets ?l2_meets ?l3_meets ?a_lot_of ?l1_lot_of ?l2_lot_of ?l3_lot_of ?a_costs_of ?l1_costs_of ?l2_costs_of ?l3_costs_of ?a_told_prices ?l1_told_prices ?l2_told_prices ?l3_told_prices ?a_prices ?l1_prices ?l2_prices ?l3_prices ?a__law_bag ?l1__law_bag ?l2__law_bag ?l3__law_bag ?a__law_take ?l1__law_take ?l2__law_take ?l3__law_take ?a__law_names ?l1__law_names ?l2__law_names ?l3__law_names ?a__law_spans ?l1__law_spans ?l2__law_spans ?l3__law_spans ?a__law_rests ?l1__law_rests ?l2__law_rests ?l3__law_rests ?a__law_hall ?l1__law_hall ?l2__law_hall ?l3__law_hall ?a__law_other_spans ?l1__law_other_spans ?l2__law_other_spans ?l3__law_other_spans ?a__law_stand ?l1__law_stand ?l2__law_stand ?l3__law_stand ?a__law_after ?l1__law_after ?l2__law_after ?l3__law_after ?a__law_called ?l1__law_called ?l2__law_called ?l3__law_called ?a__law_strokes ?l1__law_strokes ?l2__law_strokes ?l3__law_strokes ?a__law_halls ?l1__law_halls ?l2__law_halls ?l3__law_halls ?a__law_gone ?l1__law_gone ?l2__law_gone ?l3__law_gone ?a__law_shorter ?l1__law_shorter ?l2__law_shorter ?l3__law_shorter ?a__law_parted_right ?l1__law_parted_right ?l2__law_parted_right ?l3__law_parted_right ?a__law_alike_right ?l1__law_alike_right ?l2__law_alike_right ?l3__law_alike_right ?a_law ?l1_law ?l2_law ?l3_law
    (case z_len => k_is)
    (case z_tuple => k_is)
    (case z_list => k_is)
    (case z_int => k_is)
    (case z_bool => k_is)
    (case z_str => k_is)
    (case z_isinstance => k_is)
    (case z_enumerate => k_is)
    (case z_zip => k_is)
    (case z_reversed => k_is)
    (case z_range => k_is)
    (case z_min => k_is)
    (case z_max => k_is)
    (case z_abs => k_is)
    (case z_dict => k_is)
    (case z_all => k_is)
    (case z_sorted => k_is)
    (case z_set => k_is)
    (case gL => k_is)
    (case gS => k_is)
    (case aB => k_is)
    (case pgB => k_is)
    (case hdB => k_is)
    (case poB => k_is)
    (case saB => k_is)
    (case mkB => k_is)
    (case kB => k_is)
    (case nR => k_is)
    (case aI => k_is)
    (case iI => k_is)
    (case l1I => k_is)
    (case l2I => k_is)
    (case l3I => k_is)
    (case aSl => k_is)
    (case iSl => k_is)
    (case l1Sl => k_is)
    (case l2Sl => k_is)
    (case l3Sl => k_is)
    (case aT => k_is)
    (case aS => k_is)
    (case xT => k_is)
    (case saT => k_is)
    (case eT => k_is)
    (case tT => k_is)
    (case kT => k_is)
    (case iT => k_is)
    (case sT => first | rfl | k_is)
    (case nT => k_is)
    (case aTi => k_is)
    (case tTi => k_is)
    (case l1Ti => k_is)
    (case l2Ti => k_is)
    (case l3Ti => k_is)
    (case rdS => k_is)
    (case gaS => k_is)
    (case vS => k_is)
    (case a_is_whole => k_is)
    (case l1_is_whole => k_is)
    (case l2_is_whole => k_is)
    (case l3_is_whole => k_is)
    (case a_is_between => k_is)
    (case l1_is_between => k_is)
    (case l2_is_between => k_is)
    (case l3_is_between => k_is)
    (case a_is_length => k_is)
    (case l1_is_length => k_is)
    (case l2_is_length => k_is)
    (case l3_is_length => k_is)
    (case a_with_calls => k_is)
    (case l1_with_calls => k_is)
    (case l2_with_calls => k_is)
    (case l3_with_calls => k_is)
    (case a_looks => k_is)
    (case l1_looks => k_is)
    (case l2_looks => k_is)
    (case l3_looks => k_is)
    (case a_beat => k_is)
    (case l1_beat => k_is)
    (case l2_beat => k_is)
    (case l3_beat => k_is)
    (case a_called => k_is)
    (case l1_called => k_is)
    (case l2_called => k_is)
    (case l3_called => k_is)
    (case a_both_behind => k_is)
    (case l1_both_behind => k_is)
    (case l2_both_behind => k_is)
    (case l3_both_behind => k_is)
    (case a_row_to => k_is)
    (case l1_row_to => k_is)
    (case l2_row_to => k_is)
    (case l3_row_to => k_is)
    (case a_told_apart => k_is)
    (case l1_told_apart => k_is)
    (case l2_told_apart => k_is)
    (case l3_told_apart => k_is)
    (case a_is_standing => k_is)
    (case l1_is_standing => k_is)
    (case l2_is_standing => k_is)
    (case l3_is_standing => k_is)
    (case a_is_pair => k_is)
    (case l1_is_pair => k_is)
    (case l2_is_pair => k_is)
    (case l3_is_pair => k_is)
    (case a_are_pairs => k_is)
    (case l1_are_pairs => k_is)
    (case l2_are_pairs => k_is)
    (case l3_are_pairs => k_is)
    (case a_groups_of => k_is)
    (case l1_groups_of => k_is)
    (case l2_groups_of => k_is)
    (case l3_groups_of => k_is)
    (case a_meets => k_is)
    (case l1_meets => k_is)
    (case l2_meets => k_is)
    (case l3_meets => k_is)
    (case a_lot_of => k_is)
    (case l1_lot_of => k_is)
    (case l2_lot_of => k_is)
    (case l3_lot_of => k_is)
    (case a_costs_of => k_is)
    (case l1_costs_of => k_is)
    (case l2_costs_of => k_is)
    (case l3_costs_of => k_is)
    (case a_told_prices => k_is)
    (case l1_told_prices => k_is)
    (case l2_told_prices => k_is)
    (case l3_told_prices => k_is)
    (case a_prices => k_is)
    (case l1_prices => k_is)
    (case l2_prices => k_is)
    (case l3_prices => k_is)
    (case a__law_bag => k_is)
    (case l1__law_bag => k_is)
    (case l2__law_bag => k_is)
    (case l3__law_bag => k_is)
    (case a__law_take => k_is)
    (case l1__law_take => k_is)
    (case l2__law_take => k_is)
    (case l3__law_take => k_is)
    (case a__law_names => k_is)
    (case l1__law_names => k_is)
    (case l2__law_names => k_is)
    (case l3__law_names => k_is)
    (case a__law_spans => k_is)
    (case l1__law_spans => k_is)
    (case l2__law_spans => k_is)
    (case l3__law_spans => k_is)
    (case a__law_rests => k_is)
    (case l1__law_rests => k_is)
    (case l2__law_rests => k_is)
    (case l3__law_rests => k_is)
    (case a__law_hall => k_is)
    (case l1__law_hall => k_is)
    (case l2__law_hall => k_is)
    (case l3__law_hall => k_is)
    (case a__law_other_spans => k_is)
    (case l1__law_other_spans => k_is)
    (case l2__law_other_spans => k_is)
    (case l3__law_other_spans => k_is)
    (case a__law_stand => k_is)
    (case l1__law_stand => k_is)
    (case l2__law_stand => k_is)
    (case l3__law_stand => k_is)
    (case a__law_after => k_is)
    (case l1__law_after => k_is)
    (case l2__law_after => k_is)
    (case l3__law_after => k_is)
    (case a__law_called => k_is)
    (case l1__law_called => k_is)
    (case l2__law_called => k_is)
    (case l3__law_called => k_is)
    (case a__law_strokes => k_is)
    (case l1__law_strokes => k_is)
    (case l2__law_strokes => k_is)
    (case l3__law_strokes => k_is)
    (case a__law_halls => k_is)
    (case l1__law_halls => k_is)
    (case l2__law_halls => k_is)
    (case l3__law_halls => k_is)
    (case a__law_gone => k_is)
    (case l1__law_gone => k_is)
    (case l2__law_gone => k_is)
    (case l3__law_gone => k_is)
    (case a__law_shorter => k_is)
    (case l1__law_shorter => k_is)
    (case l2__law_shorter => k_is)
    (case l3__law_shorter => k_is)
    (case a__law_parted_right => k_is)
    (case l1__law_parted_right => k_is)
    (case l2__law_parted_right => k_is)
    (case l3__law_parted_right => k_is)
    (case a__law_alike_right => k_is)
    (case l1__law_alike_right => k_is)
    (case l2__law_alike_right => k_is)
    (case l3__law_alike_right => k_is)
    (case a_law => k_is)
    (case l1_law => k_is)
    (case l2_law => k_is)
    (case l3_law => k_is)

