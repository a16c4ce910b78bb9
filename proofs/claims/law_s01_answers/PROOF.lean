import PyProof.Rows.All
import Wide.All
import OpenK.AllK
import Wide.FinOn
import Open.SpecLaws
import KE.OsGo
import KE.GoesMore
import HandS.ForMost
import HandS.ForSpec
import HandS.More
import HandS.SortKw
import HandS.CallLocal
import HandS.TupSets
import HandS.NoneIn
import HandS.Evl
import HandS.Walk
import PySem.Challenge.RW_lateledger_s01_answers
set_option Elab.async false
set_option linter.unusedVariables false
set_option maxRecDepth 100000
set_option maxHeartbeats 2000000
/-! LateA: lists, the effective contents of a store: what the program's dict and its sorted rows come to. Plain Lean. -/
namespace Late
open Kex3

abbrev Row := Content × Nat

/-! ### dicts by numbers -/
section
variable {β : Type}
def getN (d : List (Nat × β)) (k : Nat) : Option β := (d.find? fun p => decide (p.1 = k)).map (·.2)
def putN (d : List (Nat × β)) (k : Nat) (v : β) : List (Nat × β) := if (d.any fun p => decide (p.1 = k)) then d.map fun p => if p.1 = k then (p.1, v) else p else d ++ [(k, v)]
theorem getN_cons (p : Nat × β) (d : List (Nat × β)) (k : Nat) : getN (p :: d) k = if p.1 = k then some p.2 else getN d k := by
  unfold getN
  rw [List.find?_cons]
  by_cases h : p.1 = k
  · simp [h]
  · simp [h]
theorem getN_any (k : Nat) : ∀ d : List (Nat × β), (d.any fun p => decide (p.1 = k)) = (getN d k).isSome
  | [] => rfl
  | p :: d => by
    rw [getN_cons, List.any_cons, getN_any k d]
    by_cases h : p.1 = k <;> simp [h]
theorem getN_none {d : List (Nat × β)} {k : Nat} (h : getN d k = none) : k ∉ d.map (·.1) := by
  intro m
  obtain ⟨p, hp, e⟩ := List.mem_map.mp m
  have q : (d.any fun p => decide (p.1 = k)) = true := List.any_eq_true.mpr ⟨p, hp, decide_eq_true e⟩
  rw [getN_any, h] at q
  cases q
theorem getN_mem {k : Nat} {v : β} : ∀ {d : List (Nat × β)}, getN d k = some v → (k, v) ∈ d
  | [], h => by cases h
  | p :: d, h => by
    rw [getN_cons] at h
    by_cases e : p.1 = k
    · rw [if_pos e] at h
      cases h
      subst e
      exact List.mem_cons_self
    · rw [if_neg e] at h
      exact List.mem_cons_of_mem _ (getN_mem h)
theorem mem_getN {k : Nat} {v : β} : ∀ {d : List (Nat × β)}, (d.map (·.1)).Nodup → (k, v) ∈ d → getN d k = some v
  | [], _, h => by cases h
  | p :: d, hn, h => by
    rw [List.map_cons, List.nodup_cons] at hn
    rw [getN_cons]
    rcases List.mem_cons.mp h with e | m
    · subst e
      rw [if_pos rfl]
    · by_cases e : p.1 = k
      · exact absurd (List.mem_map.mpr ⟨_, m, e.symm⟩) hn.1
      · rw [if_neg e]
        exact mem_getN hn.2 m
theorem getN_repl (k j : Nat) (v : β) : ∀ d : List (Nat × β), getN (d.map fun p => if p.1 = k then (p.1, v) else p) j = (getN d j).map fun x => if j = k then v else x
  | [] => rfl
  | p :: d => by
    rw [List.map_cons, getN_cons, getN_cons, getN_repl k j v d]
    by_cases h : p.1 = k
    · rw [if_pos h]
      by_cases h2 : p.1 = j
      · rw [if_pos h2, if_pos h2]
        simp [← h2, h]
      · rw [if_neg h2, if_neg h2]
    · rw [if_neg h]
      by_cases h2 : p.1 = j
      · rw [if_pos h2, if_pos h2]
        have : ¬ j = k := fun e => h (h2.trans e)
        simp [this]
      · rw [if_neg h2, if_neg h2]
theorem getN_snoc (k j : Nat) (v : β) : ∀ d : List (Nat × β), getN (d ++ [(k, v)]) j = match getN d j with
    | some x => some x
    | none => if k = j then some v else none
  | [] => by
    show getN [(k, v)] j = _
    rw [getN_cons]
    rfl
  | p :: d => by
    rw [List.cons_append, getN_cons, getN_cons, getN_snoc k j v d]
    by_cases h : p.1 = j
    · rw [if_pos h, if_pos h]
    · rw [if_neg h, if_neg h]
theorem getN_put (d : List (Nat × β)) (k j : Nat) (v : β) : getN (putN d k v) j = if j = k then some v else getN d j := by
  unfold putN
  by_cases h : (d.any fun p => decide (p.1 = k)) = true
  · rw [if_pos h, getN_repl]
    rw [getN_any] at h
    by_cases e : j = k
    · subst e
      obtain ⟨x, hx⟩ := Option.isSome_iff_exists.mp h
      rw [hx]
      simp
    · simp [e]
  · rw [if_neg h, getN_snoc]
    rw [getN_any] at h
    have hn : getN d k = none := by
      cases q : getN d k with
      | none => rfl
      | some x => rw [q] at h; exact absurd rfl h
    by_cases e : j = k
    · subst e
      rw [hn]
    · have e' : ¬ k = j := fun z => e z.symm
      rw [if_neg e', if_neg e]
      cases getN d j <;> rfl
theorem keys_put_old {d : List (Nat × β)} {k : Nat} {v x : β} (h : getN d k = some x) : (putN d k v).map (·.1) = d.map (·.1) := by
  unfold putN
  rw [if_pos (by rw [getN_any, h]; rfl), List.map_map]
  apply List.map_congr_left
  intro p _
  show (if p.1 = k then (p.1, v) else p).1 = p.1
  split <;> rfl
theorem put_new {d : List (Nat × β)} {k : Nat} {v : β} (h : getN d k = none) : putN d k v = d ++ [(k, v)] := by
  unfold putN
  rw [if_neg (by rw [getN_any, h]; simp)]
theorem nodup_snoc {l : List Nat} {k : Nat} (h : l.Nodup) (hk : k ∉ l) : (l ++ [k]).Nodup := by
  rw [List.nodup_append]
  refine ⟨h, by simp, ?_⟩
  intro a ha b hb e
  have : b = k := by simpa using hb
  subst this
  subst e
  exact hk ha
theorem nodup_put {d : List (Nat × β)} {k : Nat} {v : β} (h : (d.map (·.1)).Nodup) : ((putN d k v).map (·.1)).Nodup := by
  cases q : getN d k with
  | none =>
    rw [put_new q, List.map_append]
    exact nodup_snoc h (getN_none q)
  | some x =>
    rw [keys_put_old q]
    exact h
theorem length_put (d : List (Nat × β)) (k : Nat) (v : β) : (putN d k v).length ≤ d.length + 1 := by
  unfold putN
  split
  · rw [List.length_map]; omega
  · simp
theorem mem_put {d : List (Nat × β)} {k : Nat} {v : β} {p : Nat × β} (h : p ∈ putN d k v) : p = (k, v) ∨ p ∈ d := by
  unfold putN at h
  split at h
  · obtain ⟨q, hq, e⟩ := List.mem_map.mp h
    by_cases c : q.1 = k
    · rw [if_pos c] at e
      left
      rw [← e, ← c]
    · rw [if_neg c] at e
      right
      rw [← e]
      exact hq
  · rcases List.mem_append.mp h with m | m
    · exact .inr m
    · exact .inl (by simpa using m)
end

/-! ### lists -/
theorem take_succ {α : Type} {l : List α} {i : Nat} {x : α} (h : l[i]? = some x) : l.take (i + 1) = l.take i ++ [x] := by
  rw [List.take_add_one, h]
  rfl
theorem mem_of_at {α : Type} {l : List α} {i : Nat} {x : α} (h : l[i]? = some x) : x ∈ l := List.mem_of_getElem? h
theorem filter_snoc {α : Type} (p : α → Bool) (l : List α) (x : α) : (l ++ [x]).filter p = if p x = true then l.filter p ++ [x] else l.filter p := by
  rw [List.filter_append]
  by_cases h : p x = true
  · rw [if_pos h]; simp [h]
  · rw [if_neg h]; simp [h]

/-! ### a store as the program keeps it -/
structure GoodC (c : Content) : Prop where
  unit : c.unit ≤ 99
  kind : c.kind ≤ 2
  first : c.first ≤ 9
  second : c.second ≤ 10000
  time : c.time ≤ 100000
  expo : c.kind = 0 → c.first ≤ 7 ∧ c.second ≤ 3
structure Good (s : Store) : Prop where
  len : s.records.length ≤ 60
  ids : ∀ r ∈ s.records, r.id ≤ 999
  con : ∀ r ∈ s.records, GoodC r.content
  clock : s.clock ≤ 100000
  late : s.lateness ≤ 100000
  arr : ∀ r ∈ s.records, r.arrival ≤ 100000
/-- the records that count -/
def cnt (s : Store) : List Record := s.records.filter (hasArrived s)
theorem cnt_mem {s : Store} {r : Record} (h : r ∈ cnt s) : r ∈ s.records := (List.mem_filter.mp h).1
theorem cnt_len {s : Store} (g : Good s) : (cnt s).length ≤ 60 := Nat.le_trans (List.length_filter_le _ _) g.len

/-! ### retracted numbers -/
/-- the dict of retracted numbers: each record that counts stores its number -/
def retStep (d : List (Nat × Unit)) (r : Record) : List (Nat × Unit) := if r.content.kind == 2 then putN d r.id () else d
def retD (l : List Record) : List (Nat × Unit) := l.foldl retStep []
theorem retD_snoc (l : List Record) (r : Record) : retD (l ++ [r]) = retStep (retD l) r := by
  unfold retD
  rw [List.foldl_append]
  rfl
theorem retStep_nodup {d : List (Nat × Unit)} (r : Record) (h : (d.map (·.1)).Nodup) : ((retStep d r).map (·.1)).Nodup := by
  unfold retStep
  split
  · exact nodup_put h
  · exact h
theorem retD_nodup : ∀ l : List Record, ((retD l).map (·.1)).Nodup := by
  intro l
  suffices h : ∀ (l : List Record) (d : List (Nat × Unit)), (d.map (·.1)).Nodup → ((l.foldl retStep d).map (·.1)).Nodup from h l [] List.nodup_nil
  intro l
  induction l with
  | nil => intro d h; exact h
  | cons r l ih => intro d h; exact ih _ (retStep_nodup r h)
theorem retD_len_fold : ∀ (l : List Record) (d : List (Nat × Unit)), (l.foldl retStep d).length ≤ d.length + l.length := by
  intro l
  induction l with
  | nil => intro d; exact Nat.le_refl _
  | cons r l ih =>
    intro d
    have h1 := ih (retStep d r)
    have h2 : (retStep d r).length ≤ d.length + 1 := by
      unfold retStep
      split
      · exact length_put _ _ _
      · omega
    rw [List.foldl_cons, List.length_cons]
    omega
theorem retD_len (l : List Record) : (retD l).length ≤ l.length := by
  have := retD_len_fold l []
  simpa [retD] using this
theorem retD_get : ∀ (l : List Record) (k : Nat), (getN (retD l) k).isSome = l.any fun r => r.content.kind == 2 && r.id == k := by
  intro l
  suffices h : ∀ (l : List Record) (d : List (Nat × Unit)) (k : Nat), (getN (l.foldl retStep d) k).isSome = ((getN d k).isSome || l.any fun r => r.content.kind == 2 && r.id == k) by
    intro k
    have := h l [] k
    simpa [retD, getN] using this
  intro l
  induction l with
  | nil => intro d k; simp
  | cons r l ih =>
    intro d k
    rw [List.foldl_cons, ih, List.any_cons]
    unfold retStep
    by_cases c : (r.content.kind == 2) = true
    · rw [if_pos c, getN_put]
      by_cases e : k = r.id
      · simp [e, c]
      · have e' : (r.id == k) = false := by
          rw [beq_eq_false_iff_ne]
          exact fun z => e z.symm
        simp [e, e', c]
    · rw [if_neg c]
      have c' : (r.content.kind == 2) = false := by simpa using c
      simp [c']
theorem ret_is {s : Store} (k : Nat) : (getN (retD (cnt s)) k).isSome = isRetracted s k := by
  rw [retD_get]
  unfold cnt isRetracted
  rw [List.any_filter]
  congr 1
  funext r
  cases hasArrived s r <;> simp
theorem ret_keys {s : Store} (k : Nat) : k ∈ (retD (cnt s)).map (·.1) ↔ isRetracted s k = true := by
  rw [← ret_is]
  constructor
  · intro h
    obtain ⟨p, hp, e⟩ := List.mem_map.mp h
    rw [← getN_any]
    exact List.any_eq_true.mpr ⟨p, hp, decide_eq_true e⟩
  · intro h
    obtain ⟨x, hx⟩ := Option.isSome_iff_exists.mp h
    exact List.mem_map.mpr ⟨_, getN_mem hx, rfl⟩
theorem nodup_length_eq {l m : List Nat} (hl : l.Nodup) (hm : m.Nodup) (h : ∀ x, x ∈ l ↔ x ∈ m) : l.length = m.length :=
  ((List.perm_ext_iff_of_nodup hl hm).mpr h).length_eq
theorem isRet_rec {s : Store} {k : Nat} (h : isRetracted s k = true) : ∃ r ∈ s.records, r.id = k := by
  obtain ⟨r, hr, e⟩ := List.any_eq_true.mp h
  simp only [Bool.and_eq_true, beq_iff_eq] at e
  exact ⟨r, hr, e.2⟩
theorem mem_ids {s : Store} (g : Good s) (k : Nat) : k ∈ Kex3.ids s ↔ ∃ r ∈ s.records, r.id = k := by
  unfold Kex3.ids
  rw [List.mem_filter, List.mem_range, List.any_eq_true]
  constructor
  · rintro ⟨_, r, hr, e⟩
    exact ⟨r, hr, by simpa using e⟩
  · rintro ⟨r, hr, e⟩
    refine ⟨?_, r, hr, by simpa using e⟩
    have := g.ids r hr
    unfold maxId
    omega
theorem ids_nodup (s : Store) : (Kex3.ids s).Nodup := List.Pairwise.filter _ List.nodup_range
theorem ret_count {s : Store} (g : Good s) : (retD (cnt s)).length = (Kex3.ids s).countP (isRetracted s) := by
  rw [List.countP_eq_length_filter, ← List.length_map (f := fun p : Nat × Unit => p.1)]
  refine nodup_length_eq (retD_nodup _) (List.Pairwise.filter _ (ids_nodup s)) fun k => ?_
  rw [ret_keys, List.mem_filter, mem_ids g]
  exact ⟨fun h => ⟨isRet_rec h, h⟩, fun h => h.2⟩

/-! ### effective contents -/
/-- an exposure or event that counts and isn't late, whatever its number -/
def okR (s : Store) (r : Record) : Bool := r.content.kind != 2 && !isLate s r
def ofId (s : Store) (l : List Record) (k : Nat) : List Content := (l.filter fun r => okR s r && r.id == k).map (·.content)
theorem least_snoc (l : List Content) (c : Content) : least (l ++ [c]) = match least l with
    | none => some c
    | some b => if isBefore c b then some c else some b := by
  unfold least
  rw [List.foldl_append]
  rfl
theorem ofId_snoc (s : Store) (l : List Record) (r : Record) (k : Nat) : ofId s (l ++ [r]) k = if (okR s r && r.id == k) = true then ofId s l k ++ [r.content] else ofId s l k := by
  unfold ofId
  rw [filter_snoc]
  split
  · rw [List.map_append]; rfl
  · rfl
theorem ofId_all (s : Store) (k : Nat) : ofId s (cnt s) k = contentsOf s k := by
  unfold ofId cnt contentsOf okR
  rw [List.filter_filter]
  congr 1
  apply List.filter_congr
  intro r _
  cases hasArrived s r <;> cases (r.id == k) <;> cases (r.content.kind != 2) <;> cases isLate s r <;> rfl
/-- what the program's dict tells of a number behind some records -/
def effAt (s : Store) (l : List Record) (k : Nat) : Option Content := if isRetracted s k then none else least (ofId s l k)
theorem effAt_all (s : Store) (k : Nat) : effAt s (cnt s) k = Kex3.effective s k := by
  unfold effAt Kex3.effective
  rw [ofId_all]
theorem effAt_nil (s : Store) (k : Nat) : effAt s [] k = none := by
  unfold effAt
  split <;> rfl
/-- whether a record is looked at -/
def takes (s : Store) (r : Record) : Bool := r.content.kind != 2 && !isRetracted s r.id && !isLate s r
theorem effAt_not {s : Store} {l : List Record} {r : Record} (h : takes s r = false) (k : Nat) : effAt s (l ++ [r]) k = effAt s l k := by
  unfold effAt
  by_cases q : isRetracted s k = true
  · rw [if_pos q, if_pos q]
  · rw [if_neg q, if_neg q, ofId_snoc]
    by_cases c : (okR s r && r.id == k) = true
    · exfalso
      unfold okR at c
      simp only [Bool.and_eq_true, beq_iff_eq] at c
      unfold takes at h
      obtain ⟨⟨c1, c2⟩, c3⟩ := c
      subst c3
      rw [c1, c2] at h
      simp at h
      exact q h
    · rw [if_neg c]
theorem effAt_yes {s : Store} {l : List Record} {r : Record} (h : takes s r = true) (k : Nat) : effAt s (l ++ [r]) k = if k = r.id then (match effAt s l r.id with
    | none => some r.content
    | some b => if isBefore r.content b then some r.content else some b) else effAt s l k := by
  unfold takes at h
  simp only [Bool.and_eq_true, Bool.not_eq_true'] at h
  obtain ⟨⟨h1, h2⟩, h3⟩ := h
  by_cases e : k = r.id
  · subst e
    rw [if_pos rfl]
    unfold effAt
    rw [h2]
    simp only [Bool.false_eq_true, if_false]
    rw [ofId_snoc, if_pos (by unfold okR; simp [h1, h3]), least_snoc]
  · rw [if_neg e]
    unfold effAt
    have c : ¬ (okR s r && r.id == k) = true := by
      intro c
      rw [Bool.and_eq_true, beq_iff_eq] at c
      exact e c.2.symm
    rw [ofId_snoc, if_neg c]
/-- whether the record's content is stored -/
def newer (o : Option Content) (c : Content) : Bool := match o with
  | none => true
  | some b => isBefore c b
def stores (s : Store) (l : List Record) (r : Record) : Bool := takes s r && newer (effAt s l r.id) r.content
theorem effAt_step (s : Store) (l : List Record) (r : Record) (k : Nat) : effAt s (l ++ [r]) k = if stores s l r = true ∧ k = r.id then some r.content else effAt s l k := by
  unfold stores newer
  cases ht : takes s r with
  | false => rw [effAt_not ht]; simp
  | true =>
    rw [effAt_yes ht]
    by_cases e : k = r.id
    · subst e
      cases q : effAt s l r.id with
      | none => simp
      | some b =>
        by_cases c : isBefore r.content b = true
        · simp [c]
        · simp [c]
    · simp [e]

/-! ### the program's dict of effective contents: numbers to an address and the content there -/
/-- the dict stands for what is due of some records -/
structure EffD (s : Store) (l : List Record) (d : List (Nat × (Nat × Content))) : Prop where
  nd : (d.map (·.1)).Nodup
  len : d.length ≤ l.length
  get : ∀ k, (getN d k).map (·.2) = effAt s l k
theorem EffD.nil (s : Store) : EffD s [] [] := ⟨List.nodup_nil, Nat.le_refl _, fun k => by rw [effAt_nil]; rfl⟩
theorem EffD.keep {s : Store} {l : List Record} {d : List (Nat × (Nat × Content))} (h : EffD s l d) {r : Record} (c : stores s l r = false) : EffD s (l ++ [r]) d := by
  refine ⟨h.nd, Nat.le_trans h.len (by simp), fun k => ?_⟩
  rw [h.get, effAt_step, c]
  simp
theorem EffD.put {s : Store} {l : List Record} {d : List (Nat × (Nat × Content))} (h : EffD s l d) {r : Record} (c : stores s l r = true) (a : Nat) : EffD s (l ++ [r]) (putN d r.id (a, r.content)) := by
  refine ⟨nodup_put h.nd, ?_, fun k => ?_⟩
  · have := length_put d r.id (a, r.content)
    have := h.len
    simp
    omega
  · rw [getN_put, effAt_step, c]
    by_cases e : k = r.id
    · simp [e]
    · simp [e, h.get]
theorem EffD.mem {s : Store} {l : List Record} {d : List (Nat × (Nat × Content))} (h : EffD s l d) {x : Nat × (Nat × Content)} (m : x ∈ d) : effAt s l x.1 = some x.2.2 := by
  rw [← h.get, mem_getN (v := x.2) h.nd m]
  rfl
theorem EffD.of {s : Store} {l : List Record} {d : List (Nat × (Nat × Content))} (h : EffD s l d) {k : Nat} {c : Content} (e : effAt s l k = some c) : ∃ a, (k, (a, c)) ∈ d := by
  rw [← h.get] at e
  cases q : getN d k with
  | none => rw [q] at e; cases e
  | some x =>
    rw [q] at e
    obtain ⟨a, c'⟩ := x
    cases e
    exact ⟨a, getN_mem q⟩
theorem EffD.none_of {s : Store} {l : List Record} {d : List (Nat × (Nat × Content))} (h : EffD s l d) {k : Nat} (e : effAt s l k = none) : getN d k = none := by
  rw [← h.get] at e
  cases q : getN d k with
  | none => rfl
  | some x => rw [q] at e; cases e
theorem EffD.some_of {s : Store} {l : List Record} {d : List (Nat × (Nat × Content))} (h : EffD s l d) {k : Nat} {c : Content} (e : effAt s l k = some c) : ∃ a, getN d k = some (a, c) := by
  rw [← h.get] at e
  cases q : getN d k with
  | none => rw [q] at e; cases e
  | some x =>
    rw [q] at e
    obtain ⟨a, c'⟩ := x
    cases e
    exact ⟨a, rfl⟩

/-! ### where a content comes from -/
theorem least_mem : ∀ (l : List Content) {c : Content}, least l = some c → c ∈ l := by
  intro l
  suffices h : ∀ (l : List Content) (b : Option Content) (c : Content), l.foldl (fun best c => match best with
      | none => some c
      | some b => if isBefore c b then some c else some b) b = some c → b = some c ∨ c ∈ l by
    intro c e
    rcases h l none c e with q | q
    · cases q
    · exact q
  intro l
  induction l with
  | nil => intro b c e; exact .inl e
  | cons x l ih =>
    intro b c e
    rw [List.foldl_cons] at e
    rcases ih _ _ e with q | q
    · cases b with
      | none => cases q; exact .inr List.mem_cons_self
      | some b =>
        dsimp only at q
        split at q
        · cases q; exact .inr List.mem_cons_self
        · exact .inl q
    · exact .inr (List.mem_cons_of_mem _ q)
theorem eff_rec {s : Store} {k : Nat} {c : Content} (h : Kex3.effective s k = some c) : ∃ r ∈ s.records, r.id = k ∧ r.content = c ∧ r.content.kind ≠ 2 := by
  unfold Kex3.effective at h
  split at h
  · cases h
  · have m := least_mem _ h
    unfold contentsOf at m
    obtain ⟨r, hr, e⟩ := List.mem_map.mp m
    obtain ⟨h1, h2⟩ := List.mem_filter.mp hr
    simp only [Bool.and_eq_true, beq_iff_eq, bne_iff_ne] at h2
    exact ⟨r, h1, h2.1.1.2, e, h2.1.2⟩

/-! ### the rows in order -/
/-- the numbers of a row, as its tuple has them -/
def rowI (z : Row) : List Int := [(z.1.time : Int), (z.1.unit : Int), (z.1.kind : Int), (z.1.first : Int), (z.1.second : Int), (z.2 : Int)]
def conI (c : Content) : List Int := [(c.time : Int), (c.unit : Int), (c.kind : Int), (c.first : Int), (c.second : Int)]
structure GoodZ (z : Row) : Prop where
  con : GoodC z.1
  id : z.2 ≤ 999
  kind : z.1.kind ≤ 1
/-- the order of rows -/
def less (x y : Row) : Bool := isBefore x.1 y.1 || (x.1 == y.1 && decide (x.2 < y.2))
/-- a key that tells the order of the rows meant -/
structure KeyOf (key : Row → Int) (l : List Row) : Prop where
  lt : ∀ x ∈ l, ∀ y ∈ l, (less x y = true ↔ key x < key y)
  inj : ∀ x ∈ l, ∀ y ∈ l, key x = key y → x = y
theorem mem_insert {x z : Row} : ∀ {l : List Row}, z ∈ insertSorted x l ↔ z = x ∨ z ∈ l
  | [] => by simp [insertSorted]
  | y :: l => by
    unfold insertSorted
    split
    · simp
    · rw [List.mem_cons, mem_insert, List.mem_cons]
      constructor
      · rintro (h | h | h)
        · exact .inr (.inl h)
        · exact .inl h
        · exact .inr (.inr h)
      · rintro (h | h | h)
        · exact .inr (.inl h)
        · exact .inl h
        · exact .inr (.inr h)
theorem perm_insert (x : Row) : ∀ l : List Row, (insertSorted x l).Perm (x :: l)
  | [] => .refl _
  | y :: l => by
    unfold insertSorted
    split
    · exact .refl _
    · exact ((perm_insert x l).cons y).trans (.swap x y l)
theorem perm_fold : ∀ l : List Row, (l.foldr insertSorted []).Perm l
  | [] => .refl _
  | x :: l => (perm_insert x _).trans ((perm_fold l).cons x)
theorem sorted_insert {key : Row → Int} {x : Row} : ∀ {l : List Row}, (∀ y ∈ l, (less x y = true ↔ key x < key y)) → l.Pairwise (fun a b => key a ≤ key b) → (insertSorted x l).Pairwise (fun a b => key a ≤ key b)
  | [], _, _ => by simp [insertSorted]
  | y :: l, hk, h => by
    obtain ⟨h1, h2⟩ := List.pairwise_cons.mp h
    have hy := hk y List.mem_cons_self
    unfold insertSorted
    by_cases c : less x y = true
    · rw [if_pos (show (isBefore x.1 y.1 || (x.1 == y.1 && decide (x.2 < y.2))) = true from c)]
      have lt := hy.mp c
      refine List.pairwise_cons.mpr ⟨fun z hz => ?_, h⟩
      rcases List.mem_cons.mp hz with e | m
      · subst e; omega
      · have := h1 z m; omega
    · rw [if_neg (show ¬ (isBefore x.1 y.1 || (x.1 == y.1 && decide (x.2 < y.2))) = true from c)]
      have nlt : ¬ key x < key y := fun q => c (hy.mpr q)
      refine List.pairwise_cons.mpr ⟨fun z hz => ?_, sorted_insert (fun z hz => hk z (List.mem_cons_of_mem _ hz)) h2⟩
      rcases mem_insert.mp hz with e | m
      · subst e; omega
      · exact h1 z m
theorem sorted_fold {key : Row → Int} : ∀ {l : List Row}, KeyOf key l → (l.foldr insertSorted []).Pairwise (fun a b => key a ≤ key b)
  | [], _ => List.Pairwise.nil
  | x :: l, hk => by
    refine sorted_insert (fun y hy => hk.lt x List.mem_cons_self y (List.mem_cons_of_mem _ ((perm_fold l).mem_iff.mp hy))) (sorted_fold ⟨fun a ha b hb => hk.lt a (List.mem_cons_of_mem _ ha) b (List.mem_cons_of_mem _ hb), fun a ha b hb => hk.inj a (List.mem_cons_of_mem _ ha) b (List.mem_cons_of_mem _ hb)⟩)
/-- two lists in order with the same items are one -/
theorem sorted_one {α : Type} {key : α → Int} : ∀ {l m : List α}, l.Perm m → (∀ x ∈ l, ∀ y ∈ l, key x = key y → x = y) → l.Pairwise (fun a b => key a ≤ key b) → m.Pairwise (fun a b => key a ≤ key b) → l = m
  | [], m, p, _, _, _ => (List.nil_perm.mp p).symm
  | x :: l, [], p, _, _, _ => absurd p.length_eq (by simp)
  | x :: l, y :: m, p, inj, hl, hm => by
    obtain ⟨a1, a2⟩ := List.pairwise_cons.mp hl
    obtain ⟨b1, b2⟩ := List.pairwise_cons.mp hm
    have hy : y ∈ x :: l := p.mem_iff.mpr List.mem_cons_self
    have hx : x ∈ y :: m := p.mem_iff.mp List.mem_cons_self
    have e : x = y := by
      refine inj x List.mem_cons_self y hy ?_
      have h1 : key x ≤ key y := by
        rcases List.mem_cons.mp hy with q | q
        · subst q; exact Int.le_refl _
        · exact a1 y q
      have h2 : key y ≤ key x := by
        rcases List.mem_cons.mp hx with q | q
        · subst q; exact Int.le_refl _
        · exact b1 x q
      omega
    subst e
    rw [sorted_one p.cons_inv (fun a ha b hb => inj a (List.mem_cons_of_mem _ ha) b (List.mem_cons_of_mem _ hb)) a2 b2]
/-- the effective contents with their numbers, unsorted -/
def raw (s : Store) : List Row := (Kex3.ids s).filterMap fun i => (Kex3.effective s i).map fun c => (c, i)
theorem mem_raw {s : Store} (g : Good s) {z : Row} : z ∈ raw s ↔ Kex3.effective s z.2 = some z.1 := by
  unfold raw
  rw [List.mem_filterMap]
  constructor
  · rintro ⟨i, _, e⟩
    cases q : Kex3.effective s i with
    | none => rw [q] at e; cases e
    | some c =>
      rw [q] at e
      cases e
      exact q
  · intro h
    obtain ⟨r, hr, e, _⟩ := eff_rec h
    exact ⟨z.2, (mem_ids g _).mpr ⟨r, hr, e⟩, by rw [h]; rfl⟩
theorem nodup_fm {f : Nat → Option Row} (hf : ∀ i z, f i = some z → z.2 = i) : ∀ {l : List Nat}, l.Nodup → (l.filterMap f).Nodup
  | [], _ => by simp
  | i :: l, h => by
    obtain ⟨h1, h2⟩ := List.nodup_cons.mp h
    cases q : f i with
    | none => rw [List.filterMap_cons_none q]; exact nodup_fm hf h2
    | some z =>
      rw [List.filterMap_cons_some q, List.nodup_cons]
      refine ⟨fun m => h1 ?_, nodup_fm hf h2⟩
      obtain ⟨j, hj, e⟩ := List.mem_filterMap.mp m
      rw [← hf i z q, hf j z e]
      exact hj
theorem nodup_raw (s : Store) : (raw s).Nodup := nodup_fm (fun i z e => by
  cases q : Kex3.effective s i with
  | none => rw [q] at e; cases e
  | some c =>
    rw [q] at e
    cases e
    rfl) (ids_nodup s)
theorem good_raw {s : Store} (g : Good s) {z : Row} (h : z ∈ raw s) : GoodZ z := by
  obtain ⟨r, hr, e1, e2, e3⟩ := eff_rec ((mem_raw g).mp h)
  have c := g.con r hr
  have i := g.ids r hr
  have k := c.kind
  rw [e2] at c e3
  rw [e1] at i
  exact ⟨c, i, by have := c.kind; omega⟩
theorem all_perm (s : Store) : (effectiveAll s).Perm (raw s) := perm_fold _
theorem all_good {s : Store} (g : Good s) {z : Row} (h : z ∈ effectiveAll s) : GoodZ z := good_raw g ((all_perm s).mem_iff.mp h)
/-- the program's rows ahead of their sorting -/
def rowsOf (d : List (Nat × (Nat × Content))) : List Row := d.map fun x => (x.2.2, x.1)
theorem rowsOf_mem {s : Store} (g : Good s) {d : List (Nat × (Nat × Content))} (h : EffD s (cnt s) d) {z : Row} : z ∈ rowsOf d ↔ z ∈ raw s := by
  rw [mem_raw g]
  unfold rowsOf
  rw [List.mem_map]
  constructor
  · rintro ⟨x, hx, e⟩
    have := h.mem hx
    rw [effAt_all] at this
    rw [← e]
    exact this
  · intro q
    rw [← effAt_all] at q
    obtain ⟨a, m⟩ := h.of q
    exact ⟨_, m, rfl⟩
theorem nodup_of_map {α β : Type} {f : α → β} : ∀ {l : List α}, (l.map f).Nodup → l.Nodup
  | [], _ => List.nodup_nil
  | x :: l, h => by
    rw [List.map_cons, List.nodup_cons] at h
    exact List.nodup_cons.mpr ⟨fun m => h.1 (List.mem_map.mpr ⟨x, m, rfl⟩), nodup_of_map h.2⟩
theorem rowsOf_perm {s : Store} (g : Good s) {d : List (Nat × (Nat × Content))} (h : EffD s (cnt s) d) : (rowsOf d).Perm (raw s) := by
  refine (List.perm_ext_iff_of_nodup (nodup_of_map (f := fun z : Row => z.2) ?_) (nodup_raw s)).mpr fun z => rowsOf_mem g h
  unfold rowsOf
  rw [List.map_map]
  exact h.nd
/-- what the program's sorting gives is what is due -/
theorem rows_sorted {s : Store} (g : Good s) {d : List (Nat × (Nat × Content))} (h : EffD s (cnt s) d) {key : Row → Int} (hk : KeyOf key (raw s)) {l : List Row} (hp : l.Perm (rowsOf d)) (hl : l.Pairwise fun a b => key a ≤ key b) : l = effectiveAll s := by
  have p : l.Perm (raw s) := hp.trans (rowsOf_perm g h)
  exact sorted_one (p.trans (all_perm s).symm) (fun x hx y hy => hk.inj x (p.mem_iff.mp hx) y (p.mem_iff.mp hy)) hl (sorted_fold hk)
theorem eff_len {s : Store} (g : Good s) {d : List (Nat × (Nat × Content))} (h : EffD s (cnt s) d) : d.length ≤ 60 := Nat.le_trans h.len (cnt_len g)
theorem nodup_le : ∀ {l m : List Nat}, l.Nodup → (∀ x ∈ l, x ∈ m) → l.length ≤ m.length
  | [], _, _, _ => Nat.zero_le _
  | x :: l, m, h, sub => by
    obtain ⟨h1, h2⟩ := List.nodup_cons.mp h
    have hx := sub x List.mem_cons_self
    have q := nodup_le (l := l) (m := m.erase x) h2 fun y hy => by
      have ne : y ≠ x := fun e => h1 (e ▸ hy)
      exact (List.mem_erase_of_ne ne).mpr (sub y (List.mem_cons_of_mem _ hy))
    rw [List.length_erase_of_mem hx] at q
    have := List.length_pos_of_mem hx
    rw [List.length_cons]
    omega
theorem raw_len {s : Store} (g : Good s) : (effectiveAll s).length ≤ 60 := by
  rw [(all_perm s).length_eq]
  unfold raw
  refine Nat.le_trans (List.length_filterMap_le _ _) ?_
  have h : (Kex3.ids s).Nodup := ids_nodup s
  have sub : ∀ k ∈ Kex3.ids s, k ∈ s.records.map (·.id) := fun k hk => by
    obtain ⟨r, hr, e⟩ := (mem_ids g k).mp hk
    exact List.mem_map.mpr ⟨r, hr, e⟩
  have := nodup_le h sub
  rw [List.length_map] at this
  exact Nat.le_trans this g.len
end Late

/-! LateB: participants, metrics, funnels, retention, sessions: what the program's functions over the rows of one unit come to, and that this is what is due. Plain Lean. -/
namespace Late
open Kex3

/-! ### the rows of a unit, its events, its exposures -/
def ofU (l : List Row) (u : Nat) : List Row := l.filter fun z => z.1.unit == u
def evR (l : List Row) : List Row := l.filter fun z => z.1.kind == 1
def exR (l : List Row) (e : Nat) : List Row := l.filter fun z => z.1.kind == 0 && z.1.first == e
theorem expo_is (l : List Row) (e u : Nat) : exposures l e u = (exR (ofU l u) e).map (·.1) := by
  unfold exposures exR ofU
  rw [List.filter_filter]
  congr 1
  apply List.filter_congr
  intro z _
  cases (z.1.unit == u) <;> cases (z.1.kind == 0) <;> cases (z.1.first == e) <;> rfl
inductive Told where
  | absent | conf | part (v t : Nat)
  deriving DecidableEq
def toldI : Told → List Int
  | .absent => [-1, -1]
  | .conf => [-2, -2]
  | .part v t => [(v : Int), (t : Int)]
theorem toldI_absent (x : Told) : toldI x = [-1, -1] ↔ x = .absent := by
  cases x with
  | absent => exact ⟨fun _ => rfl, fun _ => rfl⟩
  | conf => exact ⟨fun h => absurd h (by decide), fun h => by cases h⟩
  | part v t => exact ⟨fun h => by
      have : (v : Int) = -1 := (List.cons.inj h).1
      omega, fun h => by cases h⟩
theorem toldI_conf (x : Told) : toldI x = [-2, -2] ↔ x = .conf := by
  cases x with
  | absent => exact ⟨fun h => absurd h (by decide), fun h => by cases h⟩
  | conf => exact ⟨fun _ => rfl, fun _ => rfl⟩
  | part v t => exact ⟨fun h => by
      have : (v : Int) = -2 := (List.cons.inj h).1
      omega, fun h => by cases h⟩
/-- the participation that the program tells from the rows of a unit -/
def partR (l : List Row) (e : Nat) : Told := match exR l e with
  | [] => .absent
  | z :: r => if ((z :: r).any fun y => y.1.second != z.1.second) then .conf else .part z.1.second z.1.time
theorem part_is (l : List Row) (e u : Nat) : partR (ofU l u) e = match participation l e u with
    | some p => .part p.1 p.2
    | none => if isConflicted l e u then .conf else .absent := by
  unfold isConflicted participation partR
  rw [expo_is]
  cases exR (ofU l u) e with
  | nil => rfl
  | cons z r =>
    dsimp only [List.map_cons]
    have hh : ((z :: r).any fun y => y.1.second != z.1.second) = !((r.map (·.1)).all fun d => d.second == z.1.second) := by
      rw [List.any_cons, List.all_map, List.not_all_eq_any_not]
      simp
      rfl
    rw [hh]
    rw [show (List.map (fun x => x.1) (z :: r) : List Content) = z.1 :: r.map (fun x => x.1) from rfl]
    dsimp only
    by_cases q : ((r.map (fun x => x.1)).all fun d => d.second == z.1.second) = true
    · simp [q]
    · simp [q]
theorem part_some {l : List Row} {e u : Nat} {p : Nat × Nat} (h : participation l e u = some p) : partR (ofU l u) e = .part p.1 p.2 := by
  rw [part_is, h]
theorem part_none {l : List Row} {e u : Nat} (h : participation l e u = none) : partR (ofU l u) e = if isConflicted l e u then .conf else .absent := by
  rw [part_is, h]
theorem part_of {l : List Row} {e u v t : Nat} (h : partR (ofU l u) e = .part v t) : participation l e u = some (v, t) := by
  rw [part_is] at h
  cases q : participation l e u with
  | some p =>
    rw [q] at h
    obtain ⟨a, b⟩ := p
    cases h
    rfl
  | none =>
    rw [q] at h
    dsimp only at h
    split at h <;> cases h
theorem part_isSome (l : List Row) (e u : Nat) : (participation l e u).isSome = match partR (ofU l u) e with
    | .part _ _ => true
    | _ => false := by
  rw [part_is]
  cases participation l e u with
  | some p => rfl
  | none =>
    dsimp only
    cases isConflicted l e u <;> rfl
theorem part_conf (l : List Row) (e u : Nat) : isConflicted l e u = match partR (ofU l u) e with
    | .conf => true
    | _ => false := by
  rw [part_is]
  cases q : participation l e u with
  | some p =>
    unfold isConflicted
    rw [q]
    simp
  | none =>
    dsimp only
    cases isConflicted l e u <;> rfl
theorem partR_nil (e : Nat) : partR [] e = .absent := rfl

/-! ### who stands how in an experiment -/
theorem units_nd : units.Nodup := List.nodup_range
/-- the units that have contents, in increasing order -/
def haves (l : List Row) : List Nat := units.filter fun u => !(ofU l u).isEmpty
def standOf (l : List Row) (e : Nat) (us : List Nat) : List (Nat × Told) := (us.map fun u => (u, partR (ofU l u) e)).filter fun x => x.2 != .absent
def stand (l : List Row) (e : Nat) : List (Nat × Told) := standOf l e units
theorem stand_haves (l : List Row) (e : Nat) : standOf l e (haves l) = stand l e := by
  unfold stand standOf haves
  rw [List.filter_map, List.filter_map, List.filter_filter]
  congr 1
  apply List.filter_congr
  intro u _
  show ((partR (ofU l u) e != .absent) && !(ofU l u).isEmpty) = (partR (ofU l u) e != .absent)
  cases q : ofU l u with
  | nil => rfl
  | cons z r =>
    show ((partR (z :: r) e != .absent) && true) = _
    rw [Bool.and_true]
def parts (l : List Row) (e : Nat) : List (Nat × Told) := (stand l e).filter fun x => x.2 != .conf
def isPart : Told → Bool
  | .part _ _ => true
  | _ => false
theorem parts_eq (l : List Row) (e : Nat) : parts l e = (participants l e).map fun u => (u, partR (ofU l u) e) := by
  unfold parts stand standOf participants
  rw [List.filter_filter, List.filter_map]
  congr 1
  apply List.filter_congr
  intro u _
  rw [part_isSome]
  show ((partR (ofU l u) e != .conf) && (partR (ofU l u) e != .absent)) = _
  cases partR (ofU l u) e <;> rfl
theorem parts_units (l : List Row) (e : Nat) : (parts l e).map (·.1) = participants l e := by
  rw [parts_eq, List.map_map]
  exact (List.map_congr_left fun _ _ => rfl).trans (List.map_id _)
theorem parts_mem {l : List Row} {e : Nat} {x : Nat × Told} (h : x ∈ parts l e) : ∃ v t, x = (x.1, .part v t) ∧ participation l e x.1 = some (v, t) ∧ x.1 ∈ participants l e := by
  rw [parts_eq] at h
  obtain ⟨u, hu, rfl⟩ := List.mem_map.mp h
  have hs := (List.mem_filter.mp hu).2
  rw [part_isSome] at hs
  cases q : partR (ofU l u) e with
  | absent => rw [q] at hs; cases hs
  | conf => rw [q] at hs; cases hs
  | part v t => exact ⟨v, t, rfl, part_of q, hu⟩
theorem conf_units (l : List Row) (e : Nat) : ((stand l e).filter fun x => x.2 == .conf).map (·.1) = units.filter (isConflicted l e) := by
  unfold stand standOf
  rw [List.filter_filter, List.filter_map, List.map_map]
  rw [show ((fun x : Nat × Told => x.1) ∘ fun u => (u, partR (ofU l u) e)) = id from rfl, List.map_id]
  apply List.filter_congr
  intro u _
  rw [part_conf]
  show ((partR (ofU l u) e == .conf) && (partR (ofU l u) e != .absent)) = _
  cases partR (ofU l u) e <;> rfl
/-- the units of a variant, with the times from which on they participate -/
def isVar (v : Nat) : Told → Bool
  | .part w _ => w == v
  | _ => false
def timeT : Told → Nat
  | .part _ t => t
  | _ => 0
def varT : Told → Nat
  | .part v _ => v
  | _ => 0
def vu (l : List Row) (e v : Nat) : List (Nat × Told) := (parts l e).filter fun x => isVar v x.2
theorem vu_units (l : List Row) (e v : Nat) : (vu l e v).map (·.1) = unitsOfVariant l e v := by
  unfold vu
  rw [parts_eq]
  unfold participants unitsOfVariant
  rw [List.filter_map, List.filter_filter, List.map_map]
  rw [show ((fun x : Nat × Told => x.1) ∘ fun u => (u, partR (ofU l u) e)) = id from rfl, List.map_id]
  apply List.filter_congr
  intro u _
  show (isVar v (partR (ofU l u) e) && (participation l e u).isSome) = _
  rw [part_is]
  cases q : participation l e u with
  | some p => simp [isVar]
  | none =>
    show (isVar v (if isConflicted l e u = true then Told.conf else Told.absent) && false) = _
    rw [Bool.and_false]
    rfl
theorem vu_mem {l : List Row} {e v : Nat} {x : Nat × Told} (h : x ∈ vu l e v) : ∃ t, x.2 = .part v t ∧ participation l e x.1 = some (v, t) := by
  obtain ⟨h1, h2⟩ := List.mem_filter.mp h
  obtain ⟨w, t, q, p, _⟩ := parts_mem h1
  have e2 : x.2 = .part w t := by rw [q]
  rw [e2] at h2
  have : w = v := by simpa [isVar] using h2
  subst this
  exact ⟨t, e2, p⟩
theorem vu_len (l : List Row) (e v : Nat) : (vu l e v).length ≤ 100 := by
  rw [← List.length_map (f := fun x : Nat × Told => x.1), vu_units]
  unfold unitsOfVariant
  refine Nat.le_trans (List.length_filter_le _ _) ?_
  unfold units
  rw [List.length_range]
  decide

/-! ### values -/
def pick (rows : List Row) (start name window : Nat) : List Row := (evR rows).filter fun z => z.1.first == name && (decide (start ≤ z.1.time) && decide (z.1.time < start + window))
def metricR (rows : List Row) (start : Nat) (m : Metric) : Nat :=
  let some := pick rows start m.event m.window
  if m.type = 0 then (if 0 < some.length then 1 else 0)
  else
    let n := if m.type = 1 then some.length else (some.map (·.1.second)).sum
    if 0 < m.cap then min n m.cap else n
theorem within_is (l : List Row) (u name start window : Nat) : eventsWithin l u name start window = (pick (ofU l u) start name window).map (·.1.second) := by
  unfold eventsWithin pick evR ofU
  rw [List.filter_filter, List.filter_filter]
  congr 1
  apply List.filter_congr
  intro z _
  cases (z.1.kind == 1) <;> cases (z.1.unit == u) <;> cases (z.1.first == name) <;> cases decide (start ≤ z.1.time) <;> cases decide (z.1.time < start + window) <;> rfl
theorem foldl_add (l : List Nat) (a : Nat) : l.foldl (· + ·) a = a + l.sum := by
  induction l generalizing a with
  | nil => simp
  | cons x l ih => rw [List.foldl_cons, ih, List.sum_cons]; omega
theorem metric_is (l : List Row) (m : Metric) (u start : Nat) : metricR (ofU l u) start m = metricValue l m u start := by
  unfold metricR metricValue
  rw [within_is]
  generalize pick (ofU l u) start m.event m.window = some
  dsimp only
  have hc : ∀ n, (if 0 < m.cap then min n m.cap else n) = capped m.cap n := fun n => by
    unfold capped
    by_cases h : m.cap = 0
    · rw [if_pos h, if_neg (by omega)]
    · rw [if_neg h, if_pos (by omega), Nat.min_comm]
  rw [hc, foldl_add, Nat.zero_add]
  match h : m.type with
  | 0 =>
    rw [if_pos rfl]
    cases some with
    | nil => rfl
    | cons z r => rfl
  | 1 =>
    rw [if_neg (by decide), if_pos rfl]
    show _ = capped m.cap (List.map (fun x : Row => x.1.second) some).length
    rw [List.length_map]
  | k + 2 =>
    rw [if_neg (by omega), if_neg (by omega)]
    rfl
theorem sum_le {l : List Nat} {b : Nat} (h : ∀ x ∈ l, x ≤ b) : l.sum ≤ l.length * b := by
  induction l with
  | nil => simp
  | cons x l ih =>
    have h1 := h x List.mem_cons_self
    have h2 := ih fun y hy => h y (List.mem_cons_of_mem _ hy)
    rw [List.sum_cons, List.length_cons, Nat.add_mul]
    omega
theorem pick_len (rows : List Row) (start name window : Nat) : (pick rows start name window).length ≤ rows.length :=
  Nat.le_trans (List.length_filter_le _ _) (List.length_filter_le _ _)
theorem pick_mem {rows : List Row} {start name window : Nat} {z : Row} (h : z ∈ pick rows start name window) : z ∈ rows := (List.mem_filter.mp (List.mem_filter.mp h).1).1
theorem metric_le {rows : List Row} (h : ∀ z ∈ rows, z.1.second ≤ 10000) (hl : rows.length ≤ 60) (start : Nat) (m : Metric) : metricR rows start m ≤ 600000 := by
  unfold metricR
  dsimp only
  have h1 := pick_len rows start m.event m.window
  have h2 : ((pick rows start m.event m.window).map (·.1.second)).sum ≤ 600000 := by
    refine Nat.le_trans (sum_le (b := 10000) fun x hx => ?_) ?_
    · obtain ⟨z, hz, rfl⟩ := List.mem_map.mp hx
      exact h z (pick_mem hz)
    · rw [List.length_map]
      omega
  split
  · split <;> omega
  · have hn : (if m.type = 1 then (pick rows start m.event m.window).length else ((pick rows start m.event m.window).map (·.1.second)).sum) ≤ 600000 := by
      split <;> omega
    split
    · exact Nat.le_trans (Nat.min_le_left _ _) hn
    · exact hn
theorem ofU_len (l : List Row) (u : Nat) : (ofU l u).length ≤ l.length := List.length_filter_le _ _
theorem ofU_mem {l : List Row} {u : Nat} {z : Row} (h : z ∈ ofU l u) : z ∈ l := (List.mem_filter.mp h).1
/-- the values of the units of a variant -/
def valuesR (l : List Row) (e v : Nat) (m : Metric) : List Nat := (vu l e v).map fun x => metricR (ofU l x.1) (timeT x.2) m
theorem totals_is (l : List Row) (m : Metric) (e v : Nat) : Kex3.totals l m e v = ((valuesR l e v m).length, (valuesR l e v m).sum, ((valuesR l e v m).map fun n => n * n).sum) := by
  have h : (unitsOfVariant l e v).map (valueOf l m e) = valuesR l e v m := by
    rw [← vu_units, List.map_map]
    unfold valuesR
    apply List.map_congr_left
    intro x hx
    obtain ⟨t, h1, h2⟩ := vu_mem hx
    show valueOf l m e x.1 = _
    unfold valueOf
    rw [h2, h1, metric_is]
    rfl
  unfold Kex3.totals
  rw [h]
  dsimp only
  have hs : ∀ (l : List Nat) (a : Nat), l.foldl (fun n v => n + v * v) a = a + (l.map fun n => n * n).sum := by
    intro l
    induction l with
    | nil => intro a; simp
    | cons x l ih => intro a; rw [List.foldl_cons, ih, List.map_cons, List.sum_cons]; omega
  rw [foldl_add, hs, Nat.zero_add, Nat.zero_add]

/-! ### funnels -/
def nextR (rows : List Row) (name start : Nat) : Option Nat := ((evR rows).find? fun z => z.1.first == name && decide (start ≤ z.1.time)).map (·.1.time)
def depthR (rows : List Row) : Nat → List Nat → Nat
  | _, [] => 0
  | start, e :: rest => match nextR rows e start with
    | none => 0
    | some t => depthR rows t rest + 1
theorem find_filter {α : Type} (p q : α → Bool) : ∀ l : List α, (l.filter p).find? q = l.find? fun x => p x && q x
  | [] => rfl
  | x :: l => by
    rw [List.filter_cons, List.find?_cons]
    cases hp : p x with
    | true =>
      rw [if_pos rfl, List.find?_cons, find_filter p q l]
      rfl
    | false =>
      rw [if_neg (by simp), find_filter p q l]
      rfl
theorem next_is (l : List Row) (u name start : Nat) : nextR (ofU l u) name start = (l.find? fun z => z.1.kind == 1 && z.1.unit == u && z.1.first == name && decide (start ≤ z.1.time)).map (·.1.time) := by
  unfold nextR evR ofU
  rw [find_filter, find_filter]
  congr 2
  funext z
  cases (z.1.kind == 1) <;> cases (z.1.unit == u) <;> cases (z.1.first == name) <;> cases decide (start ≤ z.1.time) <;> rfl
theorem depth_is (l : List Row) (u : Nat) : ∀ (names : List Nat) (start : Nat), depthR (ofU l u) start names = funnelDepth l u start names
  | [], _ => rfl
  | e :: rest, start => by
    unfold depthR funnelDepth
    rw [next_is]
    cases l.find? fun z => z.1.kind == 1 && z.1.unit == u && z.1.first == e && decide (start ≤ z.1.time) with
    | none => rfl
    | some z =>
      show depthR (ofU l u) z.1.time rest + 1 = _
      rw [depth_is l u rest]
theorem depth_le (rows : List Row) : ∀ (names : List Nat) (start : Nat), depthR rows start names ≤ names.length
  | [], _ => Nat.le_refl _
  | e :: rest, start => by
    unfold depthR
    cases nextR rows e start with
    | none => exact Nat.zero_le _
    | some t => exact Nat.succ_le_succ (depth_le rows rest t)
def depthsR (l : List Row) (e v : Nat) (names : List Nat) : List Nat := (vu l e v).map fun x => depthR (ofU l x.1) (timeT x.2) names
theorem funnel_is (l : List Row) (e v : Nat) (names : List Nat) : Kex3.funnel l e v names = (List.range names.length).map fun k => ((depthsR l e v names).filter fun d => decide (k + 1 ≤ d)).length := by
  have h : (unitsOfVariant l e v).map (fun u => funnelDepth l u (((participation l e u).map (·.2)).getD 0) names) = depthsR l e v names := by
    rw [← vu_units, List.map_map]
    unfold depthsR
    apply List.map_congr_left
    intro x hx
    obtain ⟨t, h1, h2⟩ := vu_mem hx
    show funnelDepth l x.1 (((participation l e x.1).map (·.2)).getD 0) names = _
    rw [h2, h1, depth_is]
    rfl
  unfold Kex3.funnel
  rw [h]
  apply List.map_congr_left
  intro k _
  rw [List.countP_eq_length_filter]
  rfl

/-! ### retention -/
def activeR (rows : List Row) (start length period : Nat) : Bool := (evR rows).any fun z => decide (start + period * length ≤ z.1.time) && decide (z.1.time < start + period * length + length)
theorem active_is (l : List Row) (u start length period : Nat) : activeR (ofU l u) start length period = isActive l u start length period := by
  unfold activeR isActive evR ofU
  rw [List.any_filter, List.any_filter]
  congr 1
  funext z
  rw [show start + (period + 1) * length = start + period * length + length by rw [Nat.add_mul]; omega]
  cases (z.1.kind == 1) <;> cases (z.1.unit == u) <;> simp
def activesR (l : List Row) (e v length period : Nat) : List (Nat × Told) := (vu l e v).filter fun x => activeR (ofU l x.1) (timeT x.2) length period
theorem retention_is (l : List Row) (e v length periods : Nat) : Kex3.retention l e v length periods = (List.range periods).map fun k => (activesR l e v length k).length := by
  unfold Kex3.retention
  apply List.map_congr_left
  intro k _
  rw [← vu_units, List.countP_map, List.countP_eq_length_filter]
  unfold activesR
  congr 1
  apply List.filter_congr
  intro x hx
  obtain ⟨t, h1, h2⟩ := vu_mem hx
  show isActive l x.1 (((participation l e x.1).map (·.2)).getD 0) length k = _
  rw [h2, h1, active_is]
  rfl

/-! ### sessions -/
def bump : List Nat → List Nat
  | [] => []
  | [x] => [x + 1]
  | x :: y :: r => x :: bump (y :: r)
def sizeStep (gap : Nat) (st : List Nat × Nat) (t : Nat) : List Nat × Nat := (bump (if st.1 = [] ∨ st.2 + gap < t then st.1 ++ [0] else st.1), t)
def sizesOf (gap : Nat) (ts : List Nat) : List Nat × Nat := ts.foldl (sizeStep gap) ([], 0)
def sizesR (rows : List Row) (gap : Nat) : List Nat := (sizesOf gap (rows.map (·.1.time))).1
theorem bump_snoc (l : List Nat) (x : Nat) : bump (l ++ [x]) = l ++ [x + 1] := by
  induction l with
  | nil => rfl
  | cons y l ih =>
    cases l with
    | nil => rfl
    | cons w r =>
      show y :: bump (w :: (r ++ [x])) = y :: (w :: r ++ [x + 1])
      rw [show w :: (r ++ [x]) = (w :: r) ++ [x] from rfl, ih]
def maxL (l : List Nat) : Nat := l.foldl max 0
theorem maxL_snoc (l : List Nat) (x : Nat) : maxL (l ++ [x]) = max (maxL l) x := by
  unfold maxL
  rw [List.foldl_append]
  rfl
theorem sessions_is (gap : Nat) (ts : List Nat) : Kex3.sessions ts gap = ((sizesOf gap ts).1.length, maxL (sizesOf gap ts).1) := by
  suffices h : ∀ (ts : List Nat) (p : List Nat) (cur last best : Nat) (st : Nat × Nat × Nat × Nat) (z : List Nat × Nat),
      ((st = (0, 0, 0, 0) ∧ z = ([], 0)) ∨ (st = (p.length + 1, last, cur, best) ∧ z = (p ++ [cur], last) ∧ best = maxL (p ++ [cur]))) →
      (let s := ts.foldl (fun (s : Nat × Nat × Nat × Nat) t => if s.1 = 0 then (1, t, 1, 1) else if s.2.1 + gap < t then (s.1 + 1, t, 1, max s.2.2.2 1) else (s.1, t, s.2.2.1 + 1, max s.2.2.2 (s.2.2.1 + 1))) st
       (s.1, s.2.2.2)) = ((ts.foldl (sizeStep gap) z).1.length, maxL (ts.foldl (sizeStep gap) z).1) by
    exact h ts [] 0 0 0 (0, 0, 0, 0) ([], 0) (.inl ⟨rfl, rfl⟩)
  intro ts
  induction ts with
  | nil =>
    intro p cur last best st z h
    rcases h with ⟨rfl, rfl⟩ | ⟨rfl, rfl, rfl⟩
    · rfl
    · simp
  | cons t ts ih =>
    intro p cur last best st z h
    rw [List.foldl_cons, List.foldl_cons]
    rcases h with ⟨rfl, rfl⟩ | ⟨rfl, rfl, e⟩
    · refine ih [] 1 t 1 _ _ (.inr ⟨rfl, ?_, rfl⟩)
      unfold sizeStep
      simp [bump]
    · have hne : ¬ (p ++ [cur]) = [] := by simp
      by_cases c : last + gap < t
      · refine ih (p ++ [cur]) 1 t (max best 1) _ _ (.inr ⟨?_, ?_, ?_⟩)
        · dsimp only
          rw [if_neg (by omega), if_pos c]
          simp
        · unfold sizeStep
          dsimp only
          rw [if_pos (.inr c), bump_snoc]
        · rw [maxL_snoc, e]
      · refine ih p (cur + 1) t (max best (cur + 1)) _ _ (.inr ⟨?_, ?_, ?_⟩)
        · dsimp only
          rw [if_neg (by omega), if_neg c]
        · unfold sizeStep
          dsimp only
          rw [if_neg (by rintro (q | q); exact hne q; exact c q), bump_snoc]
        · rw [maxL_snoc, e, maxL_snoc]
          omega

/-! ### cross counts -/
def crossStep (other : List (Nat × Told)) (found : List Nat) (x : Nat × Told) : List Nat := match getN other x.1 with
  | none => found
  | some y => found.set (4 * varT x.2 + varT y) (found.getD (4 * varT x.2 + varT y) 0 + 1)
def crossR (one other : List (Nat × Told)) : List Nat := one.foldl (crossStep other) (List.replicate 16 0)
end Late

/-! LateR: rules that the layer lacks: xs[i] op= e of a list, max with a default, zip of a text and a list. -/
namespace Late
open PySem PySem.Spec PyProof.Rows L2

section
variable {X : Cx}
/-- xs[i], read ahead of a store into it -/
theorem get_list : PGet X (rIxL X.K) := by
  intro pins s σ H o i ov iv Q I ro ri h
  obtain ⟨p, xs, k, z, rfl, rfl, hq, he, q⟩ := h
  cases ro
  obtain ⟨t, rfl⟩ := ri
  obtain ⟨its, r, pl, hz⟩ := I.list hq
  obtain ⟨j, h1, h2, h3, h4, h5⟩ := atI_get he
  obtain ⟨u, eu, ru⟩ := r.get h2
  have hl := r.length
  have hn := line63
  have fin : EP X pins σ Q u s := ⟨z, H, I, ru, q⟩
  by_cases h0 : 0 ≤ k
  · have hj : k.toNat = j := by
      rw [seqIndex_of h0 h5] at h1
      exact Option.some.inj h1
    exact wpAny_getItem_list pl.isList h0 (by omega) (by rw [hj]; simpa using eu) fin
  · have hj : (k + (its.toArray.size : Int)).toNat = j := by
      rw [seqIndex_neg (by omega) h4] at h1
      rw [List.size_toArray, ← hl]
      exact Option.some.inj h1
    exact wpAny_getItem_list_neg pl.isList (by omega) (by rw [List.size_toArray] <;> omega) (by omega) (by rw [hj]; simpa using eu) fin
end

/-! ### zip of a text and a list -/
/-- the text's signs and the items of the list at b, in new pairs -/
def Itzs (K : PySem.W.Frag) (x : Str) (b : Addr) : It :=
  ⟨fun i H => ∃ (ys : List V) (c : Nat) (y : V), x.cps[i]? = some c ∧ SqL K H b ys ∧ ys[i]? = some y,
    fun i H v H' => ∃ T c y, v = .ref T ∧ H T = none ∧ H' = upd H T (.tup [.str ⟨#[c]⟩, y]) ∧ x.cps[i]? = some c ∧ ∀ ys, SqL K H b ys → ys[i]? = some y,
    fun i H => ∃ ys : List V, SqL K H b ys ∧ i ≤ x.cps.size ∧ i ≤ ys.length ∧ (i = x.cps.size ∨ i = ys.length)⟩
structure Apart5 (z TI TO i1 i2 b : Addr) : Prop where
  a1 : TI ≠ z
  a2 : TO ≠ z
  a3 : TI ≠ TO
  a4 : TI ≠ i1
  a5 : z ≠ i1
  a6 : TO ≠ i1
  a7 : TI ≠ i2
  a8 : z ≠ i2
  a9 : TO ≠ i2
  a10 : i1 ≠ i2
  b1 : z ≠ b
  b2 : TO ≠ b
  b3 : i1 ≠ b
  b4 : b ≠ i2
theorem Apart5.sep {z TI TO i1 i2 b : Addr} (D : Apart5 z TI TO i1 i2 b) : ZipSep2 z TI TO i1 i2 [i1] [i2, b] where
  TIz := D.a1
  TOz := D.a2
  TITO := D.a3
  TIi1 := D.a4
  mem1 := by simp
  zf1 := by simpa using D.a5
  Tf1 := by simpa using D.a6
  TIi2 := D.a7
  mem2 := by simp
  zf2 := by simpa using ⟨D.a8, D.b1⟩
  Tf2 := by simpa using ⟨D.a9, D.b2⟩
  sep1_2 := by simpa using ⟨D.a10, D.b3⟩
  sep2_1 := by simpa using D.a10.symm
theorem apart5_of : ∀ (n b : Nat), b < n → Apart5 (n + 4) (n + 2) (n + 3) n (n + 1) b := fun n b h => by
  have g : ∀ (x y : Nat), x ≠ y → (show Addr from x) ≠ (show Addr from y) := fun _ _ q => q
  exact ⟨g _ _ (by omega), g _ _ (by omega), g _ _ (by omega), g _ _ (by omega), g _ _ (by omega), g _ _ (by omega), g _ _ (by omega), g _ _ (by omega), g _ _ (by omega), g _ _ (by omega), g _ _ (by omega), g _ _ (by omega), g _ _ (by omega), g _ _ (by omega)⟩
theorem five_cases {c z TI TO i1 i2 : Addr} (h : c ∈ [z, TI, TO, i1, i2]) : c = z ∨ c = TI ∨ c = TO ∨ c = i1 ∨ c = i2 := by simpa using h
theorem turn_zipS {P : Program} {w : World} {K : PySem.W.Frag} {elts : List Expr} {kk : Nat} {tpos : Pos} {x : Str} {t : Tok} {b z TI TO i1 i2 : Addr} (D : Apart5 z TI TO i1 i2 b) :
    Turn P w K (.Tuple elts kk tpos) (Itzs K x b) [z, TI, TO, i1, i2] z
      (fun i h => IsZip h z TI TO .none ∧ IsTupOf2 h TI (.ref i1) (.ref i2) ∧ (∃ u v, IsTupOf2 h TO u v) ∧ h.IsStrIter i1 (strIterType x) x t i ∧ h.IsListIter i2 b i) where
  mem := by simp
  obj := fun i h st c hc => by
    obtain ⟨hz, hTI, ⟨u, v, hTO⟩, ⟨o1, e1, _, d1⟩, ⟨o2, e2, _, d2⟩⟩ := st
    rcases five_cases hc with q | q | q | q | q <;> subst q
    · exact ⟨_, hz, fun v q => nomatch q⟩
    · exact ⟨_, hTI, fun v q => nomatch q⟩
    · exact ⟨_, hTO, fun v q => nomatch q⟩
    · exact ⟨o1, e1, fun v q => by rw [d1] at q; cases q⟩
    · exact ⟨o2, e2, fun v q => by rw [d2] at q; cases q⟩
  keep := fun i h h' st k => by
    obtain ⟨hz, hTI, ⟨u, v, hTO⟩, ⟨o1, e1, r1⟩, h2⟩ := st
    exact ⟨k z (by simp) _ hz, k TI (by simp) _ hTI, ⟨u, v, k TO (by simp) _ hTO⟩, ⟨o1, k i1 (by simp) _ e1, r1⟩, h2.at fun o q => k i2 (by simp) o q⟩
  item := by
    intro X hP hw hK hc i pins s σ H E I hf st hg
    subst hP hw hK
    obtain ⟨hz, hTI, ⟨u0, v0, hTO⟩, h1, h2⟩ := st
    obtain ⟨ys, c, y, hx, hq, hy⟩ := hg
    obtain ⟨its, rv, p, _⟩ := I.list hq
    obtain ⟨u, hu, ru⟩ := rv.get hy
    have hzl : z < s.heap.objs.size := Heap.lt_size hz
    have hi1 : i < x.cps.size := by
      rcases Nat.lt_or_ge i x.cps.size with g | g
      · exact g
      · rw [Array.getElem?_eq_none g] at hx
        cases hx
    have hi2 : i < its.toArray.size := by
      rcases Nat.lt_or_ge i its.length with g | g
      · simpa using g
      · rw [List.getElem?_eq_none g] at hu
        cases hu
    have hh : X.A.in1.handled = none := I.ok.hd hc
    refine wpAny_pyNext_zipD2_item D.sep (Draws.text hh i1 x t) (Draws.list hh i2 b D.b4 its.toArray) hz hTI hTO h1 ⟨h2, p.isList⟩ hi1 hi2 fun w1 w2 h' tk q1 q2 z' TO' h1' h2' hT hsz hk => ?_
    obtain ⟨c', t1, hc', rfl⟩ := q1
    rw [hx] at hc'
    cases hc'
    have e2 : w2 = u := by
      have q3 : its[i]? = some w2 := by simpa using q2
      rw [hu] at q3
      exact (Option.some.inj q3).symm
    subst e2
    refine ⟨_, rfl, wpAny_letOwnedTupleGo_zip (s := { s with heap := h', toks := tk }) z' fun h'' z'' sb => ?_⟩
    have hT2 : h''.get? s.heap.objs.size = some { cls := .type "tuple", data := .seq #[Value.str ⟨#[c]⟩ t1, w2] } := (sb.2 _ (Nat.ne_of_gt hzl)).trans hT
    have new : ObjOk X.prog X.w (upd H s.heap.objs.size (.tup [.str ⟨#[c]⟩, y])) h'' s.heap.objs.size (.tup [.str ⟨#[c]⟩, y]) :=
      ⟨by show 2 ≤ sizeLine; decide, [Value.str ⟨#[c]⟩ t1, w2], .cons ⟨t1, rfl⟩ (.cons ru .nil), ⟨_, hT2, rfl, _, rfl⟩⟩
    have kept : ∀ (a : Addr) (o : Obj), a ∉ [z, TI, TO, i1, i2] → s.heap.get? a = some o → h''.get? a = some o := fun a o ha q =>
      (sb.2 a (fun q' => ha (by simp [q']))).trans (hk a o (fun q' => ha (by simp [q'])) (fun q' => ha (by simp [q'])) (fun q' => ha (by simp [q'])) (fun q' => ha (by simp [q'])) q)
    have I1 : Inv X pins σ (upd H s.heap.objs.size (.tup [.str ⟨#[c]⟩, y])) { s with heap := h'', toks := tk } := I.turnedNew (t' := tk) (ch := [z, TI, TO, i1, i2]) kept hf (Nat.le_refl _) new
    have fin1 : h''.IsStrIter i1 (strIterType x) x t (i + 1) := by
      obtain ⟨o1, e1, r1⟩ := h1'
      exact ⟨o1, (sb.2 _ D.a5.symm).trans e1, r1⟩
    have fin2 : h''.IsListIter i2 b (i + 1) := h2'.1.at fun o q => (sb.2 _ D.a8.symm).trans q
    refine ⟨.ref s.heap.objs.size, _, I1, rfl, ⟨_, c, y, rfl, I.hok.fresh (Nat.le_refl _), rfl, hx, fun l hl => by rw [I.list_inj hl hq]; exact hy⟩, ⟨z'', ?_, ⟨_, _, (sb.2 _ D.a2).trans TO'⟩, fin1, fin2⟩, fun a ha => ?_⟩
    · exact (sb.2 _ D.a1).trans (hk _ _ D.a1 D.a3 D.a4 D.a7 hTI)
    · have hlt : a < s.heap.objs.size := by
        rcases five_cases ha with q | q | q | q | q <;> subst q
        · exact hzl
        · exact Heap.lt_size hTI
        · exact Heap.lt_size hTO
        · obtain ⟨_, e1, _⟩ := h1
          exact Heap.lt_size e1
        · obtain ⟨_, e2, _⟩ := h2
          exact Heap.lt_size e2
      rw [upd_ne (Nat.ne_of_lt hlt)]
      exact (hf a ha).1
  done := by
    intro X hP hw hK hc i pins s σ H E I hf st hg
    subst hP hw hK
    obtain ⟨hz, hTI, ⟨u0, v0, hTO⟩, h1, h2⟩ := st
    obtain ⟨ys, hq, g1, g2, g3⟩ := hg
    obtain ⟨its, rv, p, _⟩ := I.list hq
    have l2 := rv.length
    have hh : X.A.in1.handled = none := I.ok.hd hc
    refine wpAny_pyNext_zipD2_end D.sep (Draws.text hh i1 x t) (Draws.list hh i2 b D.b4 its.toArray) hz hTI hTO h1 ⟨h2, p.isList⟩ g1 (by simp; omega) (by simp; omega) fun h' tk hk => ⟨rfl, ?_⟩
    exact I.turnedL (t' := tk) (ch := [z, TI, TO, i1, i2]) (fun a o ha q => hk a o (fun q' => ha (by simp [q'])) (fun q' => ha (by simp [q'])) (fun q' => ha (by simp [q'])) (fun q' => ha (by simp [q'])) q) hf
  self := fun A i s Q E st h => wpAny_pyIter_zip st.1 h

def iZipS (K : PySem.W.Frag) (ta : TA) : TI := fun σ H R => ta σ H fun vs H1 => ∃ (x : Str) (b : Addr) (ys : List V), vs = [.str x, .ref b] ∧ SqL K H1 b ys ∧ R (Itzs K x b) H1
theorem pi_zipS {X : Cx} {e e2 : Expr} {ta : TA} {p pos tpos : Pos} {elts : List Expr} {kk : Nat} (hg : Gl X "zip") (hm : X.mg "zip" = none) (ha : PA X [e, e2] ta)
    (hst : starEach [e, e2] X.env = (false, eval e X.env) :: starEach [e2] X.env := by rfl) (hp2 : (backTo pos (starEach [e2] X.env)).any (·.1) = false := by rfl) :
    PI X (.Tuple elts kk tpos) (.Call (.Name "zip" p) [e, e2] [] pos) (iZipS X.K ta) := by
  refine ⟨fun pins s σ H R I h => ?_⟩
  refine Call_ (ld_blt I hg hm PyProof.Rows.boot_zip (PyProof.Rows.callWith_type1 (thn (ha.run pos pins s σ H _ I h) fun us s1 ⟨vs, H1, I1, r1, q1⟩ => ?_) hst hp2))
  obtain ⟨x, b, ys, rfl, hq, q⟩ := q1
  cases r1 with
  | cons r rr =>
    cases rr with
    | cons r' rr =>
      cases rr
      cases r'
      obtain ⟨t, rfl⟩ := r
      obtain ⟨its, rv, p1, _⟩ := I1.list hq
      have hb : b < s1.heap.objs.size := p1.lt
      refine zip_begins2 (begins_text x t) (begins_list b its.toArray) trivial p1.isList fun h' hz hTI hTO h1 h2 hsz hk => wpAny_pyIter_zip hz ?_
      have I2 : Inv X pins σ H1 { s1 with heap := h' } := I1.kept (t' := s1.toks) hk
      refine ⟨s1.heap.objs.size + 4, [s1.heap.objs.size + 4, s1.heap.objs.size + 2, s1.heap.objs.size + 3, s1.heap.objs.size, s1.heap.objs.size + 1], _, _, H1, rfl, I2, turn_zipS (x := x) (t := t) (apart5_of s1.heap.objs.size b hb),
        ⟨hz, hTI, ⟨_, _, hTO⟩, ⟨_, h1, rfl, rfl⟩, ⟨_, h2, rfl, rfl⟩⟩, fun c hcm => ?_, q⟩
      have hle : s1.heap.objs.size ≤ c := by
        rcases five_cases hcm with q | q | q | q | q <;> rw [q]
        · exact Nat.le_add_right _ _
        · exact Nat.le_add_right _ _
        · exact Nat.le_add_right _ _
        · exact Nat.le_refl _
        · exact Nat.le_add_right _ _
      exact I1.fpOk hle (I1.hok.fresh hle)
/-- a comprehension's reading over zip of a text and a list of one length -/
theorem lc_zipS {K : PySem.W.Frag} {x : Str} {b : Addr} {ys : List V} {g : TG} {tt : TT} {te : TE} {vs : List Nat} {σ : L2.St} {H1 : Hp} {D : Addr} {Qd : Hp → Prop} (hl : x.cps.size = ys.length) (Pv : Nat → Hp → Prop) (h0 : Pv 0 (upd H1 D (.lst [])))
    (hq : ∀ i H, i ≤ ys.length → Pv i H → SqL K H b ys)
    (hs : ∀ i c y T H, x.cps[i]? = some c → ys[i]? = some y → H T = none → Pv i H → g (.ref T) (wipe σ vs) (upd H T (.tup [.str ⟨#[c]⟩, y])) fun σ2 H2 => wipe σ2 vs = wipe σ vs ∧ tt σ2 H2 fun k H3 =>
      if k = true then te σ2 H3 fun v H4 => ∃ acc, H4 D = some (.lst acc) ∧ acc.length < sizeLine ∧ Pv (i + 1) (upd H4 D (.lst (acc ++ [v]))) else Pv (i + 1) H3) (hd : ∀ H, Pv ys.length H → Qd H) :
    ∃ W : Nat → Nat → Hp → Prop, (∃ m, W 0 m (upd H1 D (.lst []))) ∧ ∀ i m H, W i m H →
      ((Itzs K x b).stop i H ∧ Qd H) ∨ ((Itzs K x b).go i H ∧ ∃ Nx : Hp → Prop, (∀ H', Nx H' → ∃ m', m' < m ∧ W (i + 1) m' H') ∧ ∀ v H', (Itzs K x b).yld i H v H' → g v (wipe σ vs) H' fun σ2 H2 => wipe σ2 vs = wipe σ vs ∧ tt σ2 H2 fun k H3 =>
        if k = true then te σ2 H3 fun v H4 => ∃ acc, H4 D = some (.lst acc) ∧ acc.length < sizeLine ∧ Nx (upd H4 D (.lst (acc ++ [v]))) else Nx H3) := by
  refine ⟨fun i m H => m = ys.length - i ∧ i ≤ ys.length ∧ Pv i H, ⟨ys.length, by simp, Nat.zero_le _, h0⟩, ?_⟩
  rintro i m H ⟨rfl, hi, p⟩
  have q := hq i H hi p
  by_cases hlt : i < ys.length
  · have hc : x.cps[i]? = some x.cps[i] := Array.getElem?_eq_getElem (by omega)
    have hy : ys[i]? = some ys[i] := List.getElem?_eq_getElem hlt
    refine .inr ⟨⟨ys, _, _, hc, q, hy⟩, Pv (i + 1), fun H' p' => ⟨ys.length - (i + 1), by omega, rfl, hlt, p'⟩, fun v H' y => ?_⟩
    obtain ⟨T, c, y, rfl, hT, rfl, f1, f2⟩ := y
    exact hs i c y T H f1 (f2 ys q) hT p
  · have e : i = ys.length := by omega
    subst e
    exact .inl ⟨⟨ys, q, by omega, Nat.le_refl _, .inr rfl⟩, hd H p⟩

/-! ### the keys of a dict that a call gives: locked from here on -/
def iKeysL (td : TE) : TI := fun σ H R => td σ H fun x H1 => ∃ d kvs, x = .ref d ∧ H1 d = some (.dK kvs) ∧ ∀ o, R (Itk d o kvs) (upd H1 d (.frz o (.dK kvs)))
theorem pi_keysL {X : Cx} {tg e : Expr} {td : TE} (he : PE X e td) : PI X tg e (iKeysL td) := by
  refine ⟨fun pins s σ H R I h => ?_⟩
  refine thn (he.run pins s σ H _ I h) fun u s1 ⟨x, H1, I1, rx, d, kvs, ex, hd, q⟩ => ?_
  subst ex
  obtain rfl : u = Value.ref d := rx
  obtain ⟨od, I2⟩ := I1.lock hd trivial
  obtain ⟨hs, hgd, hx, es, ep, vs, hdt, hsz, kv, hm⟩ := I2.frzK upd_same
  refine iter_keys hs hgd hx hdt (pi_one (tk := s1.toks) I2 _ (turn_keys _ hdt) ⟨_, Heap.get?_push_size _ rfl, rfl, ?_⟩ (q od))
  rw [hsz] <;> rfl
/-! ### max of a list of ints, with a default -/
theorem max_def_args (l d : Value) : argsOk "max" ⟨[l], [(Str.ofString "default", d)]⟩ := by
  unfold argsOk
  kernel_rfl
section
variable {prog : Program} {w : World} {A : Around} {R : Result → Shared → Prop} {I : Addr} {fp wr : List Addr} {n : Nat} {P : Nat → Value → Prop} {St : Nat → Heap → Prop} {d : Value}
theorem maxd_name : (toString "max" ++ toString ".loop" : String) = "max.loop" := by decide
/-- behind j + 1 items -/
theorem maxd_loop (W : Walks prog w A.in1 I fp wr n P St) (bt : Nat → Nat → Bool) (hcmp : CmpOf prog w A.in1 .Gt P bt) (S : Addr) (nf : S ∉ fp) :
    ∀ (k j : Nat) (s : Shared) (vb : Value) (c : Nat), n - (j + 1) = k → j + 1 ≤ n → St (j + 1) s.heap → P (argBest bt j) vb →
    s.heap.get? S = some { cls := .type "list", dict := none, data := .seq #[vb, vb] c, slots := #[] } →
    (∀ v h' tk, P (argBest bt (n - 1)) v → (∀ b o, b ∉ wr → b ≠ S → s.heap.get? b = some o → h'.get? b = some o) → R (.ok (.ret v)) { s with heap := h', toks := tk }) →
    codeAny (model prog w) A (.builtin "max.loop" ⟨[.ref I, .none, .ref S], [("default", d)]⟩) R s := by
  have nw : S ∉ wr := fun h => nf (W.sub _ h)
  intro k
  induction k with
  | zero =>
    intro j s vb c hk hj hst hp hS fin
    have all : j + 1 = n := by omega
    refine codeAny_builtin F.entry_max_loop ?_
    rw [Around.under_plainId F.plain_max_loop _]
    show wpAny _ A.in1 (seqItems? (.ref S) >>= _) _ _ s
    refine wpAny_bind (wpAny_seqItems hS rfl ?_)
    show wpAny _ A.in1 (tryCatch (pyNext (.ref I)) _ >>= _) _ _ s
    refine wpAny_bind (wpAny_tryCatch (W.done s _ _ (all ▸ hst) fun h' tk kp => ?_))
    show wpAny _ A.in1 (updateSeq S (fun _ => #[]) >>= _) _ _ _
    refine wpAny_bind ?_
    refine wpAny_updateSeq (kp S _ nw hS) rfl (wpAny_bind (wpAny_letGo (wpAny_pure ?_)))
    exact fin vb _ tk (by rw [← all]; exact hp) fun b o g1 g2 e => (Heap.get?_update_other _ _ (Ne.symm g2)).trans (kp b o g1 e)
  | succ k ih =>
    intro j s vb c hk hj hst hp hS fin
    have more : j + 1 < n := by omega
    refine codeAny_builtin F.entry_max_loop ?_
    rw [Around.under_plainId F.plain_max_loop _]
    show wpAny _ A.in1 (seqItems? (.ref S) >>= _) _ _ s
    refine wpAny_bind (wpAny_seqItems hS rfl ?_)
    show wpAny _ A.in1 (tryCatch (pyNext (.ref I)) _ >>= _) _ _ s
    refine wpAny_bind (wpAny_tryCatch (W.item (j + 1) s _ _ more hst fun v h' tk hv st2 kp => ?_))
    have hS2 := kp S _ nw hS
    show wpAny _ A.in1 (tryCatch (holding [v, v] (richCompare .Gt v vb >>= _)) _ >>= _) _ _ _
    refine wpAny_bind (wpAny_tryCatch (wpAny_holding (wpAny_bind (hcmp (j + 1) (argBest bt j) v vb _ _ _ hv hp ?_))))
    refine wpAny_bind (wpAny_holding (wpAny_truthy_bool ?_))
    refine wpAny_bind (wpAny_letGo (wpAny_pure ?_))
    by_cases hb : bt (j + 1) (argBest bt j) = true
    · rw [hb]
      simp only [if_true]
      refine wpAny_bind ?_
      refine wpAny_updateSeq hS2 rfl (wpAny_bind (wpAny_letGo ?_))
      rw [maxd_name]
      refine wpAny_pure ⟨plainId_quiet F.plain_max_loop _, ih (j + 1) _ v _ (by omega) more (W.frame _ _ _ st2 fun b g o e => ?_) (by simp only [argBest, hb, if_true]; exact hv) (Heap.get?_update_self _ hS2 rfl) fun v2 h2 tk2 q1 q2 => ?_⟩
      · exact (Heap.get?_update_other _ _ (fun z : S = b => nf (by rw [z]; exact g))).trans e
      · exact fin v2 h2 tk2 q1 fun b o g1 g2 e => q2 b o g1 g2 ((Heap.get?_update_other _ _ (Ne.symm g2)).trans (kp b o g1 e))
    · have hb : bt (j + 1) (argBest bt j) = false := by simpa using hb
      rw [hb]
      simp only [Bool.false_eq_true, if_false]
      refine wpAny_bind (wpAny_letGo ?_)
      rw [maxd_name]
      refine wpAny_pure ⟨plainId_quiet F.plain_max_loop _, ih (j + 1) _ vb c (by omega) more st2 (by simp only [argBest, hb, Bool.false_eq_true, if_false]; exact hp) hS2 fun v2 h2 tk2 q1 q2 => ?_⟩
      exact fin v2 h2 tk2 q1 fun b o g1 g2 e => q2 b o g1 g2 (kp b o g1 e)
/-- from the start: the greatest, or the default where there is no item -/
theorem maxd_first (W : Walks prog w A.in1 I fp wr n P St) (bt : Nat → Nat → Bool) (hcmp : CmpOf prog w A.in1 .Gt P bt) (S : Addr) (nf : S ∉ fp) {s : Shared} {c : Nat} (hst : St 0 s.heap)
    (hS : s.heap.get? S = some { cls := .type "list", dict := none, data := .seq #[] c, slots := #[] })
    (fin : ∀ v h' tk, (if n = 0 then v = d else P (argBest bt (n - 1)) v) → (∀ b o, b ∉ wr → b ≠ S → s.heap.get? b = some o → h'.get? b = some o) → R (.ok (.ret v)) { s with heap := h', toks := tk }) :
    codeAny (model prog w) A (.builtin "max.loop" ⟨[.ref I, .none, .ref S], [("default", d)]⟩) R s := by
  have nw : S ∉ wr := fun h => nf (W.sub _ h)
  refine codeAny_builtin F.entry_max_loop ?_
  rw [Around.under_plainId F.plain_max_loop _]
  show wpAny _ A.in1 (seqItems? (.ref S) >>= _) _ _ s
  refine wpAny_bind (wpAny_seqItems hS rfl ?_)
  show wpAny _ A.in1 (tryCatch (pyNext (.ref I)) _ >>= _) _ _ s
  by_cases hn : n = 0
  · refine wpAny_bind (wpAny_tryCatch (W.done s _ _ (by rw [hn]; exact hst) fun h' tk kp => ?_))
    show wpAny _ A.in1 (PySem.rule _ >>= _) _ _ _
    refine wpAny_bind (wpAny_rule (wpAny_pure ?_))
    exact fin d h' tk (by rw [if_pos hn]) fun b o g1 _ e => kp b o g1 e
  · refine wpAny_bind (wpAny_tryCatch (W.item 0 s _ _ (by omega) hst fun v h' tk hv st2 kp => ?_))
    have hS2 := kp S _ nw hS
    show wpAny _ A.in1 (updateSeq S (fun _ => #[v, v]) >>= _) _ _ _
    refine wpAny_bind ?_
    refine wpAny_updateSeq hS2 rfl ?_
    rw [maxd_name]
    refine wpAny_pure ⟨plainId_quiet F.plain_max_loop _, maxd_loop W bt hcmp S nf _ 0 _ v _ rfl (by omega) (W.frame _ _ _ st2 fun b g o e => ?_) hv (Heap.get?_update_self _ hS2 rfl) fun v2 h2 tk2 q1 q2 => ?_⟩
    · exact (Heap.get?_update_other _ _ (fun z : S = b => nf (by rw [z]; exact g))).trans e
    · exact fin v2 h2 tk2 (by rw [if_neg hn]; exact q1) fun b o g1 g2 e => q2 b o g1 g2 ((Heap.get?_update_other _ _ (Ne.symm g2)).trans (kp b o g1 e))
end
section
variable {prog : Program} {w : World} {A : Around} {E : Value → Shared → Prop} {s : Shared} {l : Addr} {d : Value}
/-- a built-in function called with keywords, which may go on in another -/
theorem call_kw_again {id : String} {b : Builtin} {args : List Value} {kw : List (Str × Value)} {Q : Value → Shared → Prop} (k0 : builtinKind id = none) (p0 : plainId id = true) (e0 : entryFor table id = some b) (a0 : argsOk id ⟨args, kw⟩)
    (go : wpAny (model prog w) A.in1 (b ⟨args, kw⟩) (fun r s2 => match r with
      | .done f => (match (Except.ok f : Result) with | .ok (.ret v) => Q v s2 | .ok _ => False | .error e => E e s2)
      | .again c => c.quiet = true ∧ codeAny (model prog w) A c (fun r s3 => match r with | .ok (.ret v) => Q v s3 | .ok _ => False | .error e => E e s3) s2) E s) :
    wpAny (model prog w) A (call (.builtin id) args kw) Q E s := by
  refine wpAny_call (codeAny_call_builtin p0 e0 ?_)
  simp only [checkBuiltinCall, k0]
  cases q : Manifest.signature? id with
  | none => exact wpAny_pure go
  | some sig =>
    have a1 : Bind.checkArgs id sig ⟨args, kw⟩ = pure () := by simpa only [argsOk, q] using a0
    simp only [a1]
    exact wpAny_pure go
theorem maxd_call {xs : Array (Int × Tok)} {Q : Value → Shared → Prop} (hh : A.handled = none) (hl : s.heap.IsList l (intItems xs))
    (h : ∀ v h' tk, (if xs.size = 0 then v = d else (intItems xs)[argBest (fun i j => decide (numAt xs i > numAt xs j)) (xs.size - 1)]? = some v) → (∀ b o, s.heap.get? b = some o → h'.get? b = some o) → Q v { s with heap := h', toks := tk }) :
    wpAny (model prog w) A (call (.builtin "max") [.ref l] [(Str.ofString "default", d)]) Q E s := by
  refine call_kw_again F.kind_max F.plain_max F.entry_max (max_def_args _ _) ?_
  show wpAny _ A.in1 (Builtin.Builtins.bindParams "max" ["key", "default"] 0 ⟨[], [(Str.ofString "default", d)]⟩ >>= _) _ _ s
  refine wpAny_bind (wpAny_of_eq (show Builtin.Builtins.bindParams "max" ["key", "default"] 0 ⟨[], [(Str.ofString "default", d)]⟩ = pure [none, some d] from rfl) ?_)
  refine wpAny_bind (wpAny_pure ?_)
  refine wpAny_bind (iter_intList hl fun s2 e st hfp ne => ?_)
  subst e
  refine wpAny_bind (wpAny_newObj_type ?_)
  have nf : (s.heap.push { cls := .type "list_iterator", data := .fields #[.ref l, .int 0 0] }).objs.size ∉ [s.heap.objs.size, l] := fun hm => Nat.lt_irrefl _ (hfp _ hm)
  rw [maxd_name]
  have W := Walks.list (prog := prog) (w := w) (A := A.in1) hh s.heap.objs.size l ne (intItems xs)
  have hs : (intItems xs).size = xs.size := by simp [intItems]
  refine wpAny_pure ⟨plainId_quiet F.plain_max_loop _, maxd_first W _ (CmpOf.ints_gt (numAt xs) (fun _ _ => intItems_at)) _ nf (W.frame 0 _ _ st fun b _ o e => Heap.get?_push_of_some _ e) (Heap.get?_push_size _ rfl) fun v h' tk hP kp => ?_⟩
  rw [hs] at hP
  exact h v h' tk hP (old_kept fun b o g e => kp b o g (Nat.ne_of_lt (Heap.lt_size e)) (Heap.get?_push_of_some _ e))
end
/-- max(xs, default=d) of a list of ints -/
def rMaxDef (K : PySem.W.Frag) : List V → List V → Hp → VK → Prop := fun vs zs H Q => ∃ (a : Addr) (ns : List Int) (d : Int), vs = [V.ref a] ∧ zs = [V.int d] ∧ SqL K H a (ns.map V.int) ∧
  (ns = [] → Q (.int d) H) ∧ ∀ m, m ∈ ns → (∀ y ∈ ns, y ≤ m) → Q (.int m) H
theorem call_maxDef {X : Cx} (hc : X.calm = true) : CallRK X (.builtin "max") [Str.ofString "default"] (rMaxDef X.K) := by
  intro pins s σ H xs zs us ws Q I r r2 h
  obtain ⟨a, ns, d, rfl, rfl, hq, q0, q1⟩ := h
  obtain ⟨its, rv, hl, _⟩ := I.list hq
  rw [Vals.ref1 r]
  obtain ⟨u, rfl, ru⟩ := vals1 r2
  obtain ⟨t, rfl⟩ := ru
  have hi := rv.ints
  obtain ⟨ys, e⟩ := hi.allInts.items
  have hn : numsOf (intItems ys).toList = ns := by
    rw [← e]
    exact hi.numsOf
  rw [nums_intItems] at hn
  subst hn
  have hl2 := hl.isList
  rw [e] at hl2
  refine maxd_call (I.ok.hd hc) hl2 fun v h' tk hv hk => ?_
  by_cases hz : ys.size = 0
  · rw [if_pos hz] at hv
    subst hv
    exact ⟨.int d, H, I.kept (t' := tk) hk, ⟨t, rfl⟩, q0 (List.eq_nil_of_length_eq_zero (by rw [List.length_map, Array.length_toList]; exact hz))⟩
  · rw [if_neg hz] at hv
    obtain ⟨t2, rfl⟩ := intItems_at hv
    obtain ⟨h1, h2⟩ := argBest_gt (numAt ys) (ys.size - 1)
    refine ⟨.int _, H, I.kept (t' := tk) hk, ⟨t2, rfl⟩, q1 _ ?_ fun y hy => ?_⟩
    · rw [numAt_eq]
      exact PySem.getD_mem (by rw [List.length_map, Array.length_toList]; omega)
    · obtain ⟨j, hj, rfl⟩ := mem_getD hy
      rw [List.length_map, Array.length_toList] at hj
      rw [← numAt_eq]
      exact h2 j (by omega)
end Late

/-! LateK: what the text's names stand for, how a store lies in the heap, what a reading comes to. -/
namespace Late
open PySem PySem.Spec PyProof.Rows L2 Evl

/-- the i-th statement of the linked text -/
def top (i : Nat) : Stmt := PySem.Challenge.pw_lateledger_s01_answers.main.body.getD i (.Pass ⟨0, 0, 0, 0⟩)

/-! ### defs by their names -/
/-- the name x holds the def of the statement st -/
def FunH (K : PySem.W.Frag) (mg : Str → Option Value) (x : Str) (st : Stmt) (ps : List Str) : Prop := ∃ f fd, mg x = some (.ref f) ∧ Fun K x x st f fd ∧ Binds K fd ps []
/-- the name x holds a def that keeps the promise sp -/
def Has (P : Program) (w : World) (K : PySem.W.Frag) (mg : Str → Option Value) (base : Heap) (k : Nat) (x : Str) (sp : Sp) : Prop :=
  ∃ f fd ps, mg x = some (.ref f) ∧ PySem.W.keepIn K (.ref f) = true ∧ Binds K fd ps [] ∧ FnOk P w K mg base CX0 k f fd ps sp
/-- the name x holds a class whose making keeps the promise sp of its __init__ -/
def HasC (P : Program) (w : World) (K : PySem.W.Frag) (mg : Str → Option Value) (base : Heap) (k : Nat) (x : Str) (C : Addr) (sp : Sp) : Prop :=
  ∃ f fd ps, mg x = some (.ref C) ∧ Mk K C f ∧ Binds K fd ps [] ∧ FnOk P w K mg base CX0 k f fd ps sp
section
variable {P : Program} {w : World} {K : PySem.W.Frag} {mg : Str → Option Value} {base : Heap}
theorem FunH.ok {x : Str} {st : Stmt} {N ps : List Str} {k : Nat} {sp : Sp} (F : FunH K mg x st ps) (S : FnScope N ps (defScope st)) (len : ∀ vs H Q E, sp vs H Q E → vs.length = ps.length)
    (body : ∀ (f : Addr) (cdv : Value) (A : Around) (outer : List Env) (s : Shared) (H : Hp) (vs : List V) (Q : VK) (E : XK), Room k (A.deeper (envOfC x (defScope st) s.heap.objs.size f cdv)) → sp vs H Q E →
      ∃ t, PSs (cxOf CX0 P w K mg base N x (defScope st) f cdv A outer s H E).nox (defBody st) t ∧ t { nx := fun _ H' => Q .non H', rt := Q } (start N vs) H) : Has P w K mg base (k + 1) x sp := by
  obtain ⟨f, fd, hm, hF, hb⟩ := F
  exact ⟨f, fd, ps, hm, hF.kp, hb, hF.ok S len (fun cdv A outer s H vs Q E hr h => body f cdv A outer s H vs Q E hr h)⟩
end
section
variable {X : Cx} {k : Nat} {x : Str} {sp : Sp} {p pos : Pos} {e : Expr} {es : List Expr} {t : TA}
theorem pe_callH (G : Has X.prog X.w X.K X.mg X.base k x sp) (hr : Room k X.A) (hg : Gl X x) (ha : PA X (e :: es) t) (hd : (x == ("__debug__" : Str)) = false := by decide)
    (h1 : starEach (e :: es) X.env = (false, eval e X.env) :: starEach es X.env := by rfl) (h2 : (backTo pos (starEach es X.env)).any (·.1) = false := by rfl) :
    PE X (.Call (.Name x p) (e :: es) [] pos) (tCall sp [] E0 t) := by
  obtain ⟨f, fd, ps, hm, hk, hb, F⟩ := G
  exact pe_call F hr hg hm hk hb .nil pass0 ha (hdb := hd) (he := h1) (hpl := h2)
theorem pe_makeH {C : Addr} (G : HasC X.prog X.w X.K X.mg X.base k x C sp) (hr : Room (k + 1) X.A) (hg : Gl X x) (ha : PA X (e :: es) t) (hd : (x == ("__debug__" : Str)) = false := by decide)
    (h1 : starEach (e :: es) X.env = (false, eval e X.env) :: starEach es X.env := by rfl) (h2 : (backTo pos (starEach es X.env)).any (·.1) = false := by rfl) :
    PE X (.Call (.Name x p) (e :: es) [] pos) (tMake C sp [] E0 t) := by
  obtain ⟨f, fd, ps, hm, M, hb, F⟩ := G
  exact pe_make M F hr hg hm hb .nil pass0 ha (hdb := hd) (he := h1) (hpl := h2)
/-- a module's whole number -/
theorem pe_gint {i : Int} (hg : Gl X x) (hm : ∃ t, X.mg x = some (.int i t)) (hd : (x == ("__debug__" : Str)) = false := by decide) : PE X (.Name x p) (tC (.int i)) := by
  obtain ⟨t, hm⟩ := hm
  exact pe_glob hg hm ⟨_, rfl⟩ hd
/-- a module's object -/
theorem pe_gref {a : Addr} (hg : Gl X x) (hm : X.mg x = some (.ref a)) (hd : (x == ("__debug__" : Str)) = false := by decide) : PE X (.Name x p) (tC (.ref a)) := pe_glob hg hm rfl hd
end

/-! ### what the top has written -/
structure Adr where
  cE : Addr
  cL : Addr
  ab : Addr
  co : Addr
  fo : Addr
  mo : Addr
  le : Addr
  de : Addr
def formsL : List (List Nat) := [[116], [110], [105, 117, 120, 118, 116], [105, 117, 101, 119, 116], [105], [116], [116], [], [], [110], [105], [120, 117], [120], [120, 118], [120], [120, 117, 121, 101, 99, 100], [120, 118, 121, 101, 99, 100], [120, 118], [120, 118, 100, 112], [117, 103], [117], [120, 120], [120, 120], []]
def strOf (l : List Nat) : Str := ⟨l.toArray⟩
def mostL : List (Nat × Int) := [(105, 999), (117, 99), (120, 7), (118, 3), (101, 9), (119, 10000), (116, 100000), (121, 2), (99, 100000), (100, 100000), (112, 10), (103, 100000), (110, 4294967295)]
structure Txt (K : PySem.W.Frag) (w : World) (mg : Str → Option Value) (A : Adr) : Prop where
  clE : Cls K A.cE
  clL : Cls K A.cL
  nE1 : NoAttr K A.cE "number"
  nE2 : NoAttr K A.cE "arrival"
  nE3 : NoAttr K A.cE "content"
  nL1 : NoAttr K A.cL "clock"
  nL2 : NoAttr K A.cL "lateness"
  nL3 : NoAttr K A.cL "horizon"
  nL4 : NoAttr K A.cL "entries"
  g_EXPOSURE : ∃ t, mg "EXPOSURE" = some (.int 0 t)
  g_EVENT : ∃ t, mg "EVENT" = some (.int 1 t)
  g_RETRACTION : ∃ t, mg "RETRACTION" = some (.int 2 t)
  g_NO_HORIZON : ∃ t, mg "NO_HORIZON" = some (.int (-1) t)
  g_MOST_CLOCK : ∃ t, mg "MOST_CLOCK" = some (.int 100000 t)
  g_MOST_ENTRIES : ∃ t, mg "MOST_ENTRIES" = some (.int 60 t)
  g_CREATE : ∃ t, mg "CREATE" = some (.int 0 t)
  g_FUNNEL : ∃ t, mg "FUNNEL" = some (.int 17 t)
  g_MOST_NAMES : ∃ t, mg "MOST_NAMES" = some (.int 6 t)
  g_ABSENT : mg "ABSENT" = some (.ref A.ab)
  g_CONFLICTED : mg "CONFLICTED" = some (.ref A.co)
  g_FORMS : mg "FORMS" = some (.ref A.fo)
  g_MOST : mg "MOST" = some (.ref A.mo)
  g_LEAST_ONE : mg "LEAST_ONE" = some (.ref A.le)
  g_DEEDS : mg "DEEDS" = some (.ref A.de)
  tAb : ∀ H, SqT K H A.ab [.int (-1), .int (-1)]
  tCo : ∀ H, SqT K H A.co [.int (-2), .int (-2)]
  tFo : ∀ H, SqT K H A.fo (formsL.map fun l => V.str (strOf l))
  tLe : ∀ H, SqT K H A.le [.str (strOf [100]), .str (strOf [112])]
  tMo : ∀ p ∈ mostL, KDct K w A.mo (strOf [p.1]) (.int p.2)
  n_len : mg "len" = none
  n_list : mg "list" = none
  n_sorted : mg "sorted" = none
  n_any : mg "any" = none
  n_all : mg "all" = none
  n_sum : mg "sum" = none
  n_min : mg "min" = none
  n_max : mg "max" = none
  n_enumerate : mg "enumerate" = none
  n_range : mg "range" = none
  n_zip : mg "zip" = none

/-! ### what a reading comes to, told by a relation -/
def EvP (te : TE) (σ : L2.St) (H : Hp) (P : V → Hp → Prop) : Prop := ∀ H1, Ex H H1 → ∀ Q : VK, (∀ v H2, Ex H1 H2 → P v H2 → Q v H2) → te σ H1 Q
/-- what a promise wants of what is given back -/
def RetP (P : V → Hp → Prop) (H : Hp) (Q : VK) : Prop := ∀ v H2, Ex H H2 → P v H2 → Q v H2
section
variable {σ : L2.St} {H H' : Hp} {te : TE} {v : V} {P P' : V → Hp → Prop} {D : Ends} {tz : TS}
theorem EvP.mono (e : Ex H H') (h : EvP te σ H P) : EvP te σ H' P := fun H1 a Q q => h H1 (e.trans a) Q q
theorem EvP.imp (h : EvP te σ H P) (k : ∀ v H2, Ex H H2 → P v H2 → P' v H2) : EvP te σ H P' := fun H1 e Q q => h H1 e Q fun v H2 e2 p => q v H2 e2 (k v H2 (e.trans e2) p)
theorem EvP.ev (h : EvP te σ H fun u _ => u = v) : Ev te σ H v := fun H1 e Q q => h H1 e Q fun u H2 e2 p => by rw [p]; exact q H2 e2
theorem ev_p (h : Ev te σ H v) : EvP te σ H fun u _ => u = v := fun H1 e Q q => h H1 e Q fun H2 e2 => q v H2 e2 rfl
theorem evp_call {sp : Sp} {vs : List V} {ta : TA} (h : EvA ta σ H vs) (hs : ∀ H1, Ex H H1 → ∀ Q : VK, RetP P H1 Q → sp vs H1 Q E0) : EvP (tCall sp [] E0 ta) σ H P := fun H1 e Q q =>
  h H1 e _ fun H2 e2 => by
    show sp (vs ++ []) H2 Q E0
    rw [List.append_nil]
    exact hs H2 (e.trans e2) Q fun v H3 e3 p => q v H3 (e2.trans e3) p
theorem ev_callV {sp : Sp} {vs : List V} {ta : TA} (h : EvA ta σ H vs) (hs : ∀ H1, Ex H H1 → ∀ Q : VK, RetP (fun u _ => u = v) H1 Q → sp vs H1 Q E0) : Ev (tCall sp [] E0 ta) σ H v := (evp_call h hs).ev
/-- an argument that is told by a relation -/
theorem s_retP (h : EvP te σ H P) (k : ∀ v H1, Ex H H1 → P v H1 → D.rt v H1) : tRet te D σ H := h H (Ex.refl H) _ k
theorem q_asgP {i : Nat} (h : EvP te σ H P) (k : ∀ v H1, Ex H H1 → P v H1 → tz D (σ.set i (some v)) H1) : tSeq (tAsg te (gName i)) tz D σ H := h H (Ex.refl H) _ k
theorem s_asgP {i : Nat} (h : EvP te σ H P) (k : ∀ v H1, Ex H H1 → P v H1 → D.nx (σ.set i (some v)) H1) : tAsg te (gName i) D σ H := h H (Ex.refl H) _ k
theorem ev_fld {K : PySem.W.Frag} {ta : TE} {a C dx : Addr} {fs : List (Str × V)} {f : Str} (ha : Ev ta σ H (.ref a)) (ho : H a = some (.ins C dx fs)) (hc : Cls K C) (hn : NoAttr K C f) (hl : fs.lookup f = some v) : Ev (tFld K ta f) σ H v := fun H1 e Q q =>
  ha H1 e _ fun H2 e2 => ⟨a, C, dx, fs, v, rfl, e2 _ _ (e _ _ ho), hc, hn, hl, q H2 e2⟩
end

/-! ### comprehensions -/
/-- the new list holds what the items give, each by its relation -/
theorem lc_fill {α : Type} {xs : List α} {J : It} {n : Nat} {G : Hp → Prop} {Y : Nat → Hp → V → Hp → Prop} (wk : Walk J n G Y) (hn : n = xs.length) (hz : xs.length ≤ 40000) {σ : L2.St} {g : TG} {tt : TT} {te : TE} {vs : List Nat} {H1 : Hp} {D : Addr} {Qd : Hp → Prop}
    (p : α → Bool) (Src : α → V → Hp → Prop) (Rel : α → V → Hp → Prop) (hD : H1 D = none) (hG : ∀ H', Ex H1 H' → G H') (hY : ∀ i x H H', i < n → Ex H1 H → Y i H x H' → ∃ a, xs[i]? = some a ∧ Ex H H' ∧ Src a x H')
    (hE : ∀ a v H H', Ex H H' → Rel a v H → Rel a v H') (hU : ∀ a v H l l', H D = some (.lst l) → Rel a v H → Rel a v (upd H D (.lst l')))
    (turn : ∀ a ∈ xs, ∀ x H', Ex H1 H' → Src a x H' → ∃ σ', (∀ R : L2.St → Hp → Prop, R σ' H' → g x (wipe σ vs) H' R) ∧ wipe σ' vs = wipe σ vs ∧ EvT tt σ' H' (p a) ∧ (p a = true → EvP te σ' H' (Rel a)))
    (hd : ∀ H' (tl : List (α × V)), Ex H1 H' → tl.map (·.1) = xs.filter p → H' D = some (.lst (tl.map (·.2))) → (∀ x ∈ tl, Rel x.1 x.2 H') → Qd H') :
    ∃ W : Nat → Nat → Hp → Prop, (∃ m, W 0 m (upd H1 D (.lst []))) ∧ ∀ i m H, W i m H →
      (J.stop i H ∧ Qd H) ∨ (J.go i H ∧ ∃ Nx : Hp → Prop, (∀ H', Nx H' → ∃ m', m' < m ∧ W (i + 1) m' H') ∧ ∀ x H', J.yld i H x H' → g x (wipe σ vs) H' fun σ2 H2 => wipe σ2 vs = wipe σ vs ∧ tt σ2 H2 fun b H3 =>
        if b = true then te σ2 H3 fun y H4 => ∃ acc, H4 D = some (.lst acc) ∧ acc.length < sizeLine ∧ Nx (upd H4 D (.lst (acc ++ [y]))) else Nx H3) := by
  subst hn
  refine lc_it wk (fun i H => Ex H1 H ∧ ∃ tl : List (α × V), tl.map (·.1) = (xs.take i).filter p ∧ H D = some (.lst (tl.map (·.2))) ∧ ∀ x ∈ tl, Rel x.1 x.2 H) ⟨Ex.new hD, [], rfl, upd_same, fun _ m => absurd m (by simp)⟩ (fun i H _ q => hG H q.1) ?_ ?_
  · rintro i x H H' hi ⟨e1, tl, h1, h2, h3⟩ y
    obtain ⟨a, ha, e2, hs⟩ := hY i x H H' hi e1 y
    obtain ⟨σ', hg, hw, ht, he⟩ := turn a (mem_of_at ha) x H' (e1.trans e2) hs
    refine hg _ ⟨hw, ?_⟩
    refine ht H' (Ex.refl H') _ fun H3 e3 => ?_
    have e4 : Ex H H3 := e2.trans e3
    by_cases hp : p a = true
    · rw [hp, if_pos rfl]
      refine he hp H3 e3 _ fun v H4 e5 r => ⟨tl.map (·.2), (e4.trans e5) _ _ h2, ?_, ?_⟩
      · have q : tl.length ≤ xs.length := by
          have q1 := congrArg List.length h1
          rw [List.length_map] at q1
          have q2 := List.length_filter_le p (xs.take i)
          rw [List.length_take] at q2
          omega
        rw [List.length_map]
        exact sz_lt (by omega)
      · have d4 : H4 D = some (.lst (tl.map (·.2))) := (e4.trans e5) _ _ h2
        refine ⟨Ex.mut ((e1.trans e4).trans e5) hD, tl ++ [(a, v)], ?_, ?_, fun z hz => ?_⟩
        · rw [List.map_append, h1, take_succ ha, filter_snoc, if_pos hp]
          rfl
        · rw [List.map_append, upd_same]
          rfl
        · rcases List.mem_append.mp hz with m | m
          · exact hU _ _ _ _ _ d4 (hE _ _ _ _ (e4.trans e5) (h3 z m))
          · have ez : z = (a, v) := by simpa using m
            rw [ez]
            exact hU _ _ _ _ _ d4 r
    · have hp : p a = false := by simpa using hp
      rw [hp, if_neg (by simp)]
      refine ⟨e1.trans e4, tl, ?_, e4 _ _ h2, fun z hz => hE _ _ _ _ e4 (h3 z hz)⟩
      rw [h1, take_succ ha, filter_snoc, if_neg (by simp [hp])]
  · rintro H ⟨e1, tl, h1, h2, h3⟩
    rw [List.take_length] at h1
    exact hd H tl e1 h1 h2 h3
/-- the elements by a function -/
theorem tl_fun {α : Type} {out : α → V} {tl : List (α × V)} {xs : List α} (h : tl.map (·.1) = xs) (r : ∀ x ∈ tl, x.2 = out x.1) : tl.map (·.2) = xs.map out := by
  rw [← h, List.map_map]
  exact List.map_congr_left r
theorem lc_pure {α : Type} {xs : List α} {J : It} {n : Nat} {G : Hp → Prop} {Y : Nat → Hp → V → Hp → Prop} (wk : Walk J n G Y) (hn : n = xs.length) (hz : xs.length ≤ 40000) {σ : L2.St} {g : TG} {tt : TT} {te : TE} {vs : List Nat} {H1 : Hp} {D : Addr} {Qd : Hp → Prop}
    (p : α → Bool) (Src : α → V → Hp → Prop) (out : α → V) (hD : H1 D = none) (hG : ∀ H', Ex H1 H' → G H') (hY : ∀ i x H H', i < n → Ex H1 H → Y i H x H' → ∃ a, xs[i]? = some a ∧ Ex H H' ∧ Src a x H')
    (turn : ∀ a ∈ xs, ∀ x H', Ex H1 H' → Src a x H' → ∃ σ', (∀ R : L2.St → Hp → Prop, R σ' H' → g x (wipe σ vs) H' R) ∧ wipe σ' vs = wipe σ vs ∧ EvT tt σ' H' (p a) ∧ (p a = true → Ev te σ' H' (out a)))
    (hd : ∀ H', Ex H1 H' → H' D = some (.lst ((xs.filter p).map out)) → Qd H') :
    ∃ W : Nat → Nat → Hp → Prop, (∃ m, W 0 m (upd H1 D (.lst []))) ∧ ∀ i m H, W i m H →
      (J.stop i H ∧ Qd H) ∨ (J.go i H ∧ ∃ Nx : Hp → Prop, (∀ H', Nx H' → ∃ m', m' < m ∧ W (i + 1) m' H') ∧ ∀ x H', J.yld i H x H' → g x (wipe σ vs) H' fun σ2 H2 => wipe σ2 vs = wipe σ vs ∧ tt σ2 H2 fun b H3 =>
        if b = true then te σ2 H3 fun y H4 => ∃ acc, H4 D = some (.lst acc) ∧ acc.length < sizeLine ∧ Nx (upd H4 D (.lst (acc ++ [y]))) else Nx H3) :=
  lc_fill wk hn hz p Src (fun a v _ => v = out a) hD hG hY (fun _ _ _ _ _ q => q) (fun _ _ _ _ _ _ q => q)
    (fun a ha x H' e s => by
      obtain ⟨σ', h1, h2, h3, h4⟩ := turn a ha x H' e s
      exact ⟨σ', h1, h2, h3, fun q => ev_p (h4 q)⟩)
    (fun H' tl e h1 h2 h3 => hd H' e (by rw [h2, tl_fun h1 h3]))
/-- over a list, the target a name -/
theorem lc_listN {K : PySem.W.Frag} {α : Type} {a : Addr} {xs : List α} {src : α → V} (hz : xs.length ≤ 40000) {σ : L2.St} {j : Nat} {tt : TT} {te : TE} {vs : List Nat} {H1 : Hp} {D : Addr} {Qd : Hp → Prop}
    (p : α → Bool) (out : α → V) (hD : H1 D = none) (hq : SqL K H1 a (xs.map src)) (hw : ∀ x, wipe ((wipe σ vs).set j (some x)) vs = wipe σ vs)
    (turn : ∀ x ∈ xs, ∀ H', Ex H1 H' → EvT tt ((wipe σ vs).set j (some (src x))) H' (p x) ∧ (p x = true → Ev te ((wipe σ vs).set j (some (src x))) H' (out x)))
    (hd : ∀ H', Ex H1 H' → H' D = some (.lst ((xs.filter p).map out)) → Qd H') :
    ∃ W : Nat → Nat → Hp → Prop, (∃ m, W 0 m (upd H1 D (.lst []))) ∧ ∀ i m H, W i m H →
      ((Itl K a).stop i H ∧ Qd H) ∨ ((Itl K a).go i H ∧ ∃ Nx : Hp → Prop, (∀ H', Nx H' → ∃ m', m' < m ∧ W (i + 1) m' H') ∧ ∀ x H', (Itl K a).yld i H x H' → gName j x (wipe σ vs) H' fun σ2 H2 => wipe σ2 vs = wipe σ vs ∧ tt σ2 H2 fun b H3 =>
        if b = true then te σ2 H3 fun y H4 => ∃ acc, H4 D = some (.lst acc) ∧ acc.length < sizeLine ∧ Nx (upd H4 D (.lst (acc ++ [y]))) else Nx H3) :=
  lc_pure (walk_list (xs := xs.map src)) (by rw [List.length_map]) hz p (fun a x _ => x = src a) out hD (fun H' e => ex_l e hq)
    (fun i x H H' _ _ y => by
      obtain ⟨rfl, y⟩ := y
      rw [List.getElem?_map] at y
      cases q : xs[i]? with
      | none => rw [q] at y; cases y
      | some z =>
        rw [q] at y
        exact ⟨z, rfl, Ex.refl _, (Option.some.inj y).symm⟩)
    (fun z hz x H' e s => by
      subst s
      obtain ⟨h1, h2⟩ := turn z hz H' e
      exact ⟨_, fun _ r => r, hw _, h1, h2⟩) hd

/-- a comprehension over a list that stands -/
theorem el_lc {K : PySem.W.Frag} {α : Type} {a : Addr} {xs : List α} {src : α → V} {σ : L2.St} {j : Nat} {te0 : TE} {tt : TT} {te : TE} {vs : List Nat} {H : Hp} (p : α → Bool) (out : α → V) (h : Ev te0 σ H (.ref a)) (hq : SqL K H a (xs.map src)) (hz : xs.length ≤ 40000)
    (hw : ∀ x, wipe ((wipe σ vs).set j (some x)) vs = wipe σ vs) (turn : ∀ x ∈ xs, ∀ H', Ex H H' → EvT tt ((wipe σ vs).set j (some (src x))) H' (p x) ∧ (p x = true → Ev te ((wipe σ vs).set j (some (src x))) H' (out x))) :
    EvL (tLc (iList K te0) (gName j) tt te vs) σ H ((xs.filter p).map out) := fun H1 e1 Q k =>
  h H1 e1 _ fun H2 e2 => ⟨a, rfl, ⟨_, ex_l (e1.trans e2) hq⟩, fun D hD =>
    lc_listN hz p out hD (ex_l (e1.trans e2) hq) hw (fun x hx H' e => turn x hx H' ((e1.trans e2).trans e)) fun H' e q => k D H' (fresh_back e2 hD) (e2.trans e) q⟩
/-- .. over a list that a call gives -/
theorem evp_lc {K : PySem.W.Frag} {α : Type} {src : α → V} {σ : L2.St} {j : Nat} {te0 : TE} {tt : TT} {te : TE} {vs : List Nat} {H : Hp} {P0 P : V → Hp → Prop} (p : α → Bool) (out : α → V) (h : EvP te0 σ H P0) (hw : ∀ x, wipe ((wipe σ vs).set j (some x)) vs = wipe σ vs)
    (k : ∀ v H1, Ex H H1 → P0 v H1 → ∃ (a : Addr) (xs : List α), v = .ref a ∧ SqL K H1 a (xs.map src) ∧ xs.length ≤ 40000 ∧
      (∀ x ∈ xs, ∀ H', Ex H1 H' → EvT tt ((wipe σ vs).set j (some (src x))) H' (p x) ∧ (p x = true → Ev te ((wipe σ vs).set j (some (src x))) H' (out x))) ∧ ∀ D H', Ex H1 H' → H' D = some (.lst ((xs.filter p).map out)) → P (.ref D) H') :
    EvP (tLc (iList K te0) (gName j) tt te vs) σ H P := fun H1 e1 Q q => h H1 e1 _ fun v H2 e2 pv => by
  obtain ⟨a, xs, rfl, hq, hz, turn, fin⟩ := k v H2 (e1.trans e2) pv
  exact ⟨a, rfl, ⟨_, hq⟩, fun D hD => lc_listN hz p out hD hq hw turn fun H' e s => q _ _ (e2.trans e) (fin D H' e s)⟩

/-! ### a dict, locked while it is walked -/
theorem lock_sub {H : Hp} {d : Addr} {u : HO} {od : Obj} (h : H d = some u) {b : Addr} {o : HO} (q : H b = some o) (ne : b ≠ d) : upd H d (.frz od u) b = some o := by
  rw [upd_ne ne]
  exact q
/-- reading stands under the lock -/
theorem lock_rd {H : Hp} {d : Addr} {u : HO} {od : Obj} (h : H d = some u) {b : Addr} {o : HO} (q : Rd H b o) (nf : ∀ o' u', u ≠ .frz o' u') : Rd (upd H d (.frz od u)) b o := by
  by_cases e : b = d
  · subst e
    rcases q with q | ⟨o', q⟩
    · rw [h] at q
      cases q
      exact .inr ⟨od, upd_same⟩
    · rw [h] at q
      exact absurd (Option.some.inj q) (nf _ _)
  · rcases q with q | ⟨o', q⟩
    · exact .inl (lock_sub h q e)
    · exact .inr ⟨o', lock_sub h q e⟩
theorem lock_l {K : PySem.W.Frag} {H : Hp} {d : Addr} {kvs : List (Key × V)} {od : Obj} (h : H d = some (.dK kvs)) {a : Addr} {xs : List V} (q : SqL K H a xs) : SqL K (upd H d (.frz od (.dK kvs))) a xs := by
  rcases q with q | q
  · exact .inl (lock_rd h q fun _ _ z => by cases z)
  · exact .inr q
theorem lock_t {K : PySem.W.Frag} {H : Hp} {d : Addr} {kvs : List (Key × V)} {od : Obj} (h : H d = some (.dK kvs)) {a : Addr} {xs : List V} (q : SqT K H a xs) : SqT K (upd H d (.frz od (.dK kvs))) a xs := by
  rcases q with q | q
  · exact .inl (lock_rd h q fun _ _ z => by cases z)
  · exact .inr q
/-- behind the lock all that stood stands -/
theorem lock_back {H H' : Hp} {d : Addr} {u : HO} {od : Obj} (h : H d = some u) (e : Ex (upd H d (.frz od u)) H') : Ex H (upd H' d u) := fun b o q => by
  by_cases z : b = d
  · subst z
    rw [h] at q
    cases q
    exact upd_same
  · rw [upd_ne z]
    exact e b o (lock_sub h q z)
theorem lock_ne {H H' : Hp} {d b : Addr} {u : HO} {od : Obj} {o : HO} (e : Ex (upd H d (.frz od u)) H') (n : upd H d (.frz od u) b = none) (q : H' b = some o) : upd H' d u b = some o := by
  have z : b ≠ d := fun z => by
    subst z
    rw [upd_same] at n
    cases n
  rw [upd_ne z]
  exact q
def natK (k : Nat) : Key := Sum.inl (k : Int)
theorem natK_inj {a b : Nat} (h : natK a = natK b) : a = b := by
  have := Sum.inl.inj h
  omega
/-- a dict by numbers, as the heap has it -/
def encD {β : Type} (f : β → V) (d : List (Nat × β)) : List (Key × V) := d.map fun x => (natK x.1, f x.2)
section
variable {β : Type} {f : β → V}
theorem encD_val (k : Nat) : ∀ d : List (Nat × β), valV (encD f d) (natK k) = (getN d k).map f
  | [] => rfl
  | p :: d => by
    show valV ((natK p.1, f p.2) :: encD f d) (natK k) = _
    rw [getN_cons]
    by_cases h : p.1 = k
    · rw [if_pos h, valV_pos (by rw [h])]
      rfl
    · rw [if_neg h, valV_neg (fun e => h (natK_inj e)), encD_val k d]
theorem encD_any (k : Nat) (d : List (Nat × β)) : ((encD f d).any fun kv => decide (kv.1 = natK k)) = d.any fun p => decide (p.1 = k) := by
  unfold encD
  rw [List.any_map]
  congr 1
  funext p
  by_cases h : p.1 = k
  · simp [h]
  · have : ¬ natK p.1 = natK k := fun e => h (natK_inj e)
    simp [h, this]
theorem encD_put (d : List (Nat × β)) (k : Nat) (v : β) : putK (encD f d) (natK k) (f v) = encD f (putN d k v) := by
  unfold putK putN
  rw [encD_any]
  split
  · unfold encD
    rw [List.map_map, List.map_map]
    apply List.map_congr_left
    intro p _
    show (if natK p.1 = natK k then _ else _) = _
    by_cases h : p.1 = k
    · simp [h]
    · have : ¬ natK p.1 = natK k := fun e => h (natK_inj e)
      simp [h, this]
  · simp [encD]
theorem encD_len (d : List (Nat × β)) : (encD f d).length = d.length := by
  unfold encD
  rw [List.length_map]
theorem encD_get {d : List (Nat × β)} {k : Nat} {v : β} (h : getN d k = some v) : valV (encD f d) (natK k) = some (f v) := by
  rw [encD_val, h]
  rfl
theorem encD_none {d : List (Nat × β)} {k : Nat} (h : getN d k = none) : valV (encD f d) (natK k) = none := by
  rw [encD_val, h]
  rfl
end

/-! ### how things lie in the heap -/
open Kex3 in
def entF (r : Record) (t : Addr) : List (Str × V) := [("number", .int (r.id : Int)), ("arrival", .int (r.arrival : Int)), ("content", .ref t)]
open Kex3 in
def EntAt (A : Adr) (H : Hp) (e : Addr) (r : Record) : Prop := ∃ dx t, H e = some (.ins A.cE dx (entF r t)) ∧ H t = some (.tup ((conI r.content).map V.int))
open Kex3 in
def EntsAt (A : Adr) (H : Hp) (el : List (Addr × Record)) : Prop := ∀ x ∈ el, EntAt A H x.1 x.2
def refs {α : Type} (l : List (Addr × α)) : List V := l.map fun x => V.ref x.1
def hzI (h : Option Nat) : Int := match h with
  | none => -1
  | some h => (h : Int)
open Kex3 in
def ledF (s : Store) (ae : Addr) : List (Str × V) := [("clock", .int (s.clock : Int)), ("lateness", .int (s.lateness : Int)), ("horizon", .int (hzI s.horizon)), ("entries", .ref ae)]
open Kex3 in
def LedAt (A : Adr) (H : Hp) (a ae : Addr) (s : Store) : Prop := ∃ dx el, H a = some (.ins A.cL dx (ledF s ae)) ∧ H ae = some (.lst (refs el)) ∧ el.map (·.2) = s.records ∧ EntsAt A H el
def RowsAt (K : PySem.W.Frag) (H : Hp) (tl : List (Addr × Row)) : Prop := ∀ x ∈ tl, SqT K H x.1 ((rowI x.2).map V.int)
/-- at p a list of the rows l -/
def RowsL (K : PySem.W.Frag) (H : Hp) (p : Addr) (l : List Row) : Prop := ∃ tl : List (Addr × Row), tl.map (·.2) = l ∧ SqL K H p (refs tl) ∧ RowsAt K H tl
section
variable {K : PySem.W.Frag} {A : Adr} {H H' : Hp}
theorem EntAt.mono {e : Addr} {r : Kex3.Record} (x : Ex H H') (h : EntAt A H e r) : EntAt A H' e r := by
  obtain ⟨dx, t, h1, h2⟩ := h
  exact ⟨dx, t, x _ _ h1, x _ _ h2⟩
theorem EntsAt.mono {el : List (Addr × Kex3.Record)} (x : Ex H H') (h : EntsAt A H el) : EntsAt A H' el := fun y hy => (h y hy).mono x
theorem LedAt.mono {a ae : Addr} {s : Kex3.Store} (x : Ex H H') (h : LedAt A H a ae s) : LedAt A H' a ae s := by
  obtain ⟨dx, el, h1, h2, h3, h4⟩ := h
  exact ⟨dx, el, x _ _ h1, x _ _ h2, h3, h4.mono x⟩
theorem RowsAt.mono {tl : List (Addr × Row)} (x : Ex H H') (h : RowsAt K H tl) : RowsAt K H' tl := fun y hy => ex_t x (h y hy)
theorem RowsL.mono {p : Addr} {l : List Row} (x : Ex H H') (h : RowsL K H p l) : RowsL K H' p l := by
  obtain ⟨tl, h1, h2, h3⟩ := h
  exact ⟨tl, h1, ex_l x h2, h3.mono x⟩
theorem refs_len {α : Type} (l : List (Addr × α)) : (refs l).length = l.length := by
  unfold refs
  rw [List.length_map]
theorem snd_filter {α : Type} (l : List (Addr × α)) (p : α → Bool) : (l.filter fun x => p x.2).map (·.2) = (l.map (·.2)).filter p := by
  rw [List.filter_map]
  rfl
theorem int_eq (a b : Nat) : decide (V.int (a : Int) = V.int (b : Int)) = (a == b) := by
  by_cases h : a = b
  · simp [h]
  · have : ¬ (V.int (a : Int) = V.int (b : Int)) := fun e => h (by
      have := V.int.inj e
      omega)
    simp [h, this]
theorem dec_is {p q : Prop} [Decidable p] [Decidable q] (h : p ↔ q) : decide p = decide q := decide_eq_decide.mpr h
theorem row0 (z : Row) : ((rowI z).map V.int)[0]? = some (.int (z.1.time : Int)) := rfl
end

/-! ### one object changes, all else stands -/
def ExB (d : Addr) (H H' : Hp) : Prop := ∀ b o, b ≠ d → H b = some o → H' b = some o
section
variable {d : Addr} {H H' H0 H1 : Hp} {K : PySem.W.Frag} {A : Adr}
theorem ExB.of (e : Ex H H') : ExB d H H' := fun b o _ q => e b o q
theorem ExB.refl : ExB d H H := fun _ _ _ q => q
theorem ExB.andThen (x : ExB d H H1) (e : Ex H1 H') : ExB d H H' := fun b o n q => e b o (x b o n q)
theorem ExB.put {o : HO} (x : ExB d H H1) : ExB d H (upd H1 d o) := fun b u n q => by
  rw [upd_ne n]
  exact x b u n q
theorem ExB.trans (x : ExB d H H1) (y : ExB d H1 H') : ExB d H H' := fun b o n q => y b o n (x b o n q)
theorem ExB.base (e : Ex H0 H) (n : H0 d = none) (x : ExB d H H') : Ex H0 H' := fun b o q => x b o (ne_of_none q n) (e b o q)
/-- what is no list is no list -/
def NoL (o : Option HO) : Prop := ∀ u, o = some u → (∀ xs, u ≠ .lst xs) ∧ (∀ xs, u ≠ .tup xs) ∧ (∀ C dx fs, u ≠ .ins C dx fs) ∧ ∀ o' u', u ≠ .frz o' u'
theorem noL_dK {kvs : List (Key × V)} (h : H d = some (.dK kvs)) : NoL (H d) := fun u q => by
  rw [h] at q
  cases q
  exact ⟨fun _ z => (by cases z), fun _ z => (by cases z), fun _ _ _ z => (by cases z), fun _ _ z => (by cases z)⟩
theorem exb_l (hd : NoL (H d)) (e : ExB d H H') {a : Addr} {xs : List V} (h : SqL K H a xs) : SqL K H' a xs := by
  rcases h with (q | ⟨o, q⟩) | q
  · exact .inl (.inl (e _ _ (fun z => (hd _ (z ▸ q)).1 _ rfl) q))
  · exact .inl (.inr ⟨o, e _ _ (fun z => (hd _ (z ▸ q)).2.2.2 _ _ rfl) q⟩)
  · exact .inr q
theorem exb_la (e : ExB d H H') {a : Addr} {xs : List V} (n : a ≠ d) (h : SqL K H a xs) : SqL K H' a xs := by
  rcases h with (q | ⟨o, q⟩) | q
  · exact .inl (.inl (e _ _ n q))
  · exact .inl (.inr ⟨o, e _ _ n q⟩)
  · exact .inr q
/-- neither a tuple nor an instance nor known -/
def NoT (o : Option HO) : Prop := ∀ u, o = some u → (∀ xs, u ≠ .tup xs) ∧ (∀ C dx fs, u ≠ .ins C dx fs) ∧ ∀ o' u', u ≠ .frz o' u'
theorem NoL.t {o : Option HO} (h : NoL o) : NoT o := fun u q => (h u q).2
theorem noT_lst {xs : List V} (h : H d = some (.lst xs)) : NoT (H d) := fun u q => by
  rw [h] at q
  cases q
  exact ⟨fun _ z => (by cases z), fun _ _ _ z => (by cases z), fun _ _ z => (by cases z)⟩
theorem exb_t (hd : NoT (H d)) (e : ExB d H H') {a : Addr} {xs : List V} (h : SqT K H a xs) : SqT K H' a xs := by
  rcases h with (q | ⟨o, q⟩) | q
  · exact .inl (.inl (e _ _ (fun z => (hd _ (z ▸ q)).1 _ rfl) q))
  · exact .inl (.inr ⟨o, e _ _ (fun z => (hd _ (z ▸ q)).2.2 _ _ rfl) q⟩)
  · exact .inr q
theorem EntAt.exb (hd : NoT (H d)) (e : ExB d H H') {a : Addr} {r : Kex3.Record} (h : EntAt A H a r) : EntAt A H' a r := by
  obtain ⟨dx, t, q1, q2⟩ := h
  exact ⟨dx, t, e _ _ (fun z => (hd _ (z ▸ q1)).2.1 _ _ _ rfl) q1, e _ _ (fun z => (hd _ (z ▸ q2)).1 _ rfl) q2⟩
theorem EntsAt.exb (hd : NoT (H d)) (e : ExB d H H') {el : List (Addr × Kex3.Record)} (h : EntsAt A H el) : EntsAt A H' el := fun x hx => (h x hx).exb hd e
theorem LedAt.exb (hd : NoT (H d)) (e : ExB d H H') {a ae : Addr} {s : Kex3.Store} (n : ae ≠ d) (h : LedAt A H a ae s) : LedAt A H' a ae s := by
  obtain ⟨dx, el, q1, q2, q3, q4⟩ := h
  exact ⟨dx, el, e _ _ (fun z => (hd _ (z ▸ q1)).2.1 _ _ _ rfl) q1, e _ _ n q2, q3, q4.exb hd e⟩
theorem LedAt.exbD {kvs : List (Key × V)} (h0 : H d = some (.dK kvs)) (e : ExB d H H') {a ae : Addr} {s : Kex3.Store} (h : LedAt A H a ae s) : LedAt A H' a ae s := by
  obtain ⟨dx, el, q1, q2, q3, q4⟩ := id h
  exact h.exb (noL_dK h0).t e fun z => by
    rw [z, h0] at q2
    cases q2
theorem RowsAt.exb (hd : NoT (H d)) (e : ExB d H H') {tl : List (Addr × Row)} (h : RowsAt K H tl) : RowsAt K H' tl := fun x hx => exb_t hd e (h x hx)
end

/-! ### dicts, in readings -/
section
variable {σ : L2.St} {H : Hp} {td ty tv : TE} {d : Addr} {k : Key} {kvs : List (Key × V)} {v : V} {D : Ends} {tz : TS}
theorem dget_rd (h : Rd H d (.dK kvs)) : DGet H d (kV k) (valV kvs k) := .inl ⟨kvs, k, h, rfl, rfl⟩
theorem ev_dget (hd : Ev td σ H (.ref d)) (hk : Ev ty σ H (kV k)) (h : Rd H d (.dK kvs)) (hv : valV kvs k = some v) : Ev (tDGet td ty) σ H v := fun H1 e Q q =>
  hd H1 e _ fun H2 e2 => hk H2 (e.trans e2) _ fun H3 e3 => ⟨d, v, rfl, by
    have g := dget_rd (k := k) (ex_rd ((e.trans e2).trans e3) h)
    rw [hv] at g
    exact g, q H3 (e2.trans e3)⟩
theorem ev_din (hd : Ev td σ H (.ref d)) (hk : Ev ty σ H (kV k)) (h : Rd H d (.dK kvs)) : Ev (tDIn ty td) σ H (.bl (valV kvs k).isSome) := fun H1 e Q q =>
  hk H1 e _ fun H2 e2 => hd H2 (e.trans e2) _ fun H3 e3 => ⟨d, _, rfl, dget_rd (k := k) (ex_rd ((e.trans e2).trans e3) h), q H3 (e2.trans e3)⟩
theorem ev_dnotin (hd : Ev td σ H (.ref d)) (hk : Ev ty σ H (kV k)) (h : Rd H d (.dK kvs)) : Ev (tDNotIn ty td) σ H (.bl (!(valV kvs k).isSome)) := fun H1 e Q q =>
  hk H1 e _ fun H2 e2 => hd H2 (e.trans e2) _ fun H3 e3 => ⟨d, _, rfl, dget_rd (k := k) (ex_rd ((e.trans e2).trans e3) h), q H3 (e2.trans e3)⟩
theorem s_dput (hv : Ev tv σ H v) (hd : Ev td σ H (.ref d)) (hk : Ev ty σ H (kV k)) (h : H d = some (.dK kvs)) (hl : kvs.length < 100000) (q : ∀ H1, Ex H H1 → D.nx σ (upd H1 d (.dK (putK kvs k v)))) : sDPut td ty tv D σ H :=
  hv H (Ex.refl H) _ fun H1 e1 => hd H1 e1 _ fun H2 e2 => hk H2 (e1.trans e2) _ fun H3 e3 =>
    ⟨d, _, rfl, DPut.k (((e1.trans e2).trans e3) _ _ h) (sz_lt hl), q H3 ((e1.trans e2).trans e3)⟩
theorem q_dput (hv : Ev tv σ H v) (hd : Ev td σ H (.ref d)) (hk : Ev ty σ H (kV k)) (h : H d = some (.dK kvs)) (hl : kvs.length < 100000) (q : ∀ H1, Ex H H1 → tz D σ (upd H1 d (.dK (putK kvs k v)))) : tSeq (sDPut td ty tv) tz D σ H :=
  s_dput (D := { D with nx := tz D }) hv hd hk h hl q
theorem q_dnew {i : Nat} (q : ∀ p, H p = none → tz D (σ.set i (some (.ref p))) (upd H p (.dK []))) : tSeq (tAsg tDNewK (gName i)) tz D σ H := q
end
/-! ### a loop over a list, the target a name -/
theorem for_listN {K : PySem.W.Frag} {a : Addr} {xs : List V} {j : Nat} {tb : TS} {D : Ends} {σ : L2.St} {H : Hp} (Pv : Nat → L2.St → Hp → Prop) (h0 : Pv 0 σ H) (hq : ∀ i σ H, i ≤ xs.length → Pv i σ H → SqL K H a xs)
    (hs : ∀ i x σ H, xs[i]? = some x → Pv i σ H → tb { D with nx := Pv (i + 1), ct := Pv (i + 1), bk := D.nx } (σ.set j (some x)) H) (hd : ∀ σ H, Pv xs.length σ H → D.nx σ H) :
    ∃ W : Nat → Nat → L2.St → Hp → Prop, (∃ m, W 0 m σ H) ∧ ∀ i m σ H, W i m σ H →
      ((Itl K a).stop i H ∧ D.nx σ H) ∨ ((Itl K a).go i H ∧ ∃ N : L2.St → Hp → Prop, (∀ σ' H', N σ' H' → ∃ m', m' < m ∧ W (i + 1) m' σ' H') ∧ ∀ x H', (Itl K a).yld i H x H' → gName j x σ H' fun σ2 H2 => tb { D with nx := N, ct := N, bk := D.nx } σ2 H2) :=
  for_list Pv h0 hq (fun i x σ H hx p => hs i x σ H hx p) hd
theorem ref_at {α : Type} {l : List (Addr × α)} {i : Nat} {x : V} (h : (refs l)[i]? = some x) : ∃ y, l[i]? = some y ∧ x = .ref y.1 := by
  unfold refs at h
  rw [List.getElem?_map] at h
  cases q : l[i]? with
  | none => rw [q] at h; cases h
  | some y =>
    rw [q] at h
    exact ⟨y, rfl, (Option.some.inj h).symm⟩
theorem snd_at {α : Type} {l : List (Addr × α)} {m : List α} (h : l.map (·.2) = m) {i : Nat} {y : Addr × α} (q : l[i]? = some y) : m[i]? = some y.2 := by
  rw [← h, List.getElem?_map, q]
  rfl

/-! ### the order of tuples -/
theorem lex_nat (a b : Nat) (xs ys : List Int) : HT.lexLt ((a : Int) :: xs) ((b : Int) :: ys) = (decide (a < b) || (a == b && HT.lexLt xs ys)) := by
  rw [HT.lexLt_cons]
  by_cases h : a = b
  · subst h
    simp
  · have h1 : ¬ (a : Int) = (b : Int) := by omega
    have h2 : (a == b) = false := by simpa using h
    rw [if_neg h1, h2]
    simp
theorem lex_con (a b : Kex3.Content) : HT.lexLt (conI a) (conI b) = Kex3.isBefore a b := by
  unfold conI Kex3.isBefore
  rw [lex_nat, lex_nat, lex_nat, lex_nat, lex_nat, HT.lexLt_nil_nil]
  simp
theorem con_ext {a b : Kex3.Content} : (a == b) = (a.time == b.time && (a.unit == b.unit && (a.kind == b.kind && (a.first == b.first && a.second == b.second)))) := by
  obtain ⟨t, u, k, f, s⟩ := a
  obtain ⟨t', u', k', f', s'⟩ := b
  rw [Bool.eq_iff_iff]
  simp [beq_iff_eq]
theorem lex_row (x y : Row) : HT.lexLt (rowI x) (rowI y) = less x y := by
  unfold rowI less Kex3.isBefore
  rw [lex_nat, lex_nat, lex_nat, lex_nat, lex_nat, lex_nat, HT.lexLt_nil_nil, con_ext]
  cases (x.1.time == y.1.time) <;> cases (x.1.unit == y.1.unit) <;> cases (x.1.kind == y.1.kind) <;> cases (x.1.first == y.1.first) <;> cases (x.1.second == y.1.second) <;> simp [Bool.or_assoc]
theorem lex_code {B : Int} : ∀ {ns ms : List Int}, ns.length = ms.length → TS.Bd B ns → TS.Bd B ms → (HT.lexLt ns ms = true ↔ TS.code B ns < TS.code B ms)
  | [], [], _, _, _ => by simp [HT.lexLt_nil_nil, TS.code]
  | [], _ :: _, h, _, _ => by cases h
  | _ :: _, [], h, _, _ => by cases h
  | x :: xs, y :: ys, h, h1, h2 => by
    have hl : xs.length = ys.length := by simpa using h
    rw [HT.lexLt_cons]
    by_cases e : x = y
    · subst e
      rw [if_pos rfl, TS.code_same hl]
      exact lex_code hl h1.tail h2.tail
    · rw [if_neg e, decide_eq_true_iff]
      constructor
      · intro q
        exact TS.code_lt hl h1.tail h2.tail q
      · intro q
        rcases Int.lt_or_lt_of_ne e with g | g
        · exact g
        · have := TS.code_lt hl.symm h2.tail h1.tail g
          omega
theorem code_inj {B : Int} : ∀ {ns ms : List Int}, ns.length = ms.length → TS.Bd B ns → TS.Bd B ms → TS.code B ns = TS.code B ms → ns = ms
  | [], [], _, _, _, _ => rfl
  | [], _ :: _, h, _, _, _ => by cases h
  | _ :: _, [], h, _, _, _ => by cases h
  | x :: xs, y :: ys, h, h1, h2, c => by
    have hl : xs.length = ys.length := by simpa using h
    have e : x = y := by
      by_cases e : x = y
      · exact e
      · rcases Int.lt_or_lt_of_ne e with g | g
        · have := TS.code_lt hl h1.tail h2.tail g
          omega
        · have := TS.code_lt hl.symm h2.tail h1.tail g
          omega
    subst e
    have c2 : TS.code B xs = TS.code B ys := by
      have a1 := not_congr (TS.code_same (B := B) (d := x) hl)
      have a2 := not_congr (TS.code_same (B := B) (d := x) hl.symm)
      have b1 := a1.mp (by omega)
      have b2 := a2.mp (by omega)
      omega
    rw [code_inj hl h1.tail h2.tail c2]
def keyB : Int := 100001
theorem bd_row {z : Row} (h : GoodZ z) : TS.Bd keyB (rowI z) := by
  intro m hm
  have c := h.con
  have h1 := c.time
  have h2 := c.unit
  have h3 := c.kind
  have h4 := c.first
  have h5 := c.second
  have h6 := h.id
  unfold rowI at hm
  unfold keyB
  simp only [List.mem_cons, List.not_mem_nil, or_false] at hm
  rcases hm with e | e | e | e | e | e <;> subst e <;> omega
theorem rowI_inj {x y : Row} (h : rowI x = rowI y) : x = y := by
  obtain ⟨⟨t, u, k, f, s⟩, i⟩ := x
  obtain ⟨⟨t', u', k', f', s'⟩, i'⟩ := y
  unfold rowI at h
  simp only [List.cons.injEq, and_true] at h
  obtain ⟨h1, h2, h3, h4, h5, h6⟩ := h
  have e1 : t = t' := by omega
  have e2 : u = u' := by omega
  have e3 : k = k' := by omega
  have e4 : f = f' := by omega
  have e5 : s = s' := by omega
  have e6 : i = i' := by omega
  rw [e1, e2, e3, e4, e5, e6]
theorem key_rows {l : List Row} (h : ∀ z ∈ l, GoodZ z) : KeyOf (fun z => TS.code keyB (rowI z)) l where
  lt := fun x hx y hy => by
    rw [← lex_row]
    exact lex_code rfl (bd_row (h x hx)) (bd_row (h y hy))
  inj := fun x hx y hy e => rowI_inj (code_inj rfl (bd_row (h x hx)) (bd_row (h y hy)) e)
end Late

/-! D1: the defs of contents. -/
namespace Late
open PySem PySem.Spec PyProof.Rows L2 Evl
open Kex3 (Record Content Store)
section
variable {P : Program} {w : World} {K : PySem.W.Frag} {mg : Str → Option Value} {base : Heap} {A : Adr}
/-! ### kind_of -/
abbrev s_kind_of : Stmt := top 7
theorem sc_kind_of : FnScope ["entry"] ["entry"] (defScope s_kind_of) := ⟨rfl, rfl, rfl, by decide +kernel, rfl, by decide +kernel, by decide +kernel⟩
def spKind (A : Adr) : Sp := fun vs H Q _ => ∃ e r, vs = [.ref e] ∧ EntAt A H e r ∧ RetP (fun v _ => v = .int (r.content.kind : Int)) H Q
theorem con_at {K : PySem.W.Frag} {H : Hp} {t : Addr} {c : Content} (h : H t = some (.tup ((conI c).map V.int))) : SqT K H t ((conI c).map V.int) := st_of h
theorem ok_kind_of (T : Txt K w mg A) (F : FunH K mg "kind_of" s_kind_of ["entry"]) : Has P w K mg base 1 "kind_of" (spKind A) := by
  refine F.ok sc_kind_of (fun vs H Q E h => ?_) (fun f cdv Ar outer s H vs Q E hr h => ⟨_, (pss_one (ps_ret (pe_ix ix_tup (pe_fld (pv 0) (by rfl)) pe_int (fun _ _ => rfl)))), ?_⟩)
  · obtain ⟨e, r, rfl, _⟩ := h
    rfl
  · obtain ⟨e, r, rfl, ⟨dx, t, h1, h2⟩, k⟩ := h
    exact s_ret (ev_op (ev_fld (ev_var rfl) h1 T.clE T.nE3 rfl) ev_c (rv_ixT (con_at h2) (atI_nat (j := 2) rfl))) fun H1 e1 => k _ H1 e1 rfl
theorem ev_kind {σ : L2.St} {H : Hp} {i : Nat} {e : Addr} {r : Record} (hv : σ[i]? = some (some (.ref e))) (h : EntAt A H e r) : Ev (tCall (spKind A) [] E0 (tCons (tVar i) tNil)) σ H (.int (r.content.kind : Int)) :=
  ev_callV (ea_cons (ev_var hv) ea_nil) fun H1 e1 Q k => ⟨e, r, rfl, h.mono e1, k⟩
/-! ### counting -/
abbrev s_counting : Stmt := top 8
theorem sc_counting : FnScope ["ledger", "entry"] ["ledger"] (defScope s_counting) := ⟨rfl, rfl, rfl, by decide +kernel, rfl, by decide +kernel, by decide +kernel⟩
def ResEnts (A : Adr) (l : List Record) : V → Hp → Prop := fun v H => ∃ p el, v = .ref p ∧ H p = some (.lst (refs el)) ∧ el.map (·.2) = l ∧ EntsAt A H el
def spCounting (A : Adr) : Sp := fun vs H Q _ => ∃ a ae s, vs = [.ref a] ∧ LedAt A H a ae s ∧ s.records.length ≤ 60 ∧ RetP (ResEnts A (cnt s)) H Q
theorem snd_len {α β : Type} {l : List (α × β)} {m : List β} (h : l.map (·.2) = m) : l.length = m.length := by
  rw [← h, List.length_map]
theorem hz_none {h : Option Nat} : decide ((V.int (hzI h)) = V.int (-1)) = true ↔ h = none := by
  cases h with
  | none => simp [hzI]
  | some x =>
    simp only [hzI, V.int.injEq, decide_eq_true_eq]
    constructor
    · intro q
      omega
    · intro q
      cases q
theorem ok_counting (T : Txt K w mg A) (F : FunH K mg "counting" s_counting ["ledger"]) : Has P w K mg base 1 "counting" (spCounting A) := by
  refine F.ok sc_counting (fun vs H Q E h => ?_) (fun f cdv Ar outer s H vs Q E hr h => ⟨_, (pss_cons (ps_if (pt_cmpR op_eq (pe_fld (pv 0) (by rfl)) (pe_gint (by rfl) T.g_NO_HORIZON) (nomark _)) (pss_one (ps_ret (pe_callTy call_list_of (by rfl) T.n_list (by decide +kernel) (pa_cons (pe_fld (pv 0) (by rfl)) pa_nil)))) pss_nil)   (pss_one (ps_ret (pe_lc (own := [("entry", 1)]) (g := (gName 1)) (tt := (tTest (tOp (rI0 fun i j => .bl (decide (i ≤ j))) (tFld K (tVar 1) "arrival") (tFld K (tVar 0) "horizon")))) (te := (tVar 1)) (by rfl) sc_counting.nd (pi_list (pe_fld (pv 0) (by rfl))) (blkOk_by (own := [("entry", 1)]) (N := ["ledger", "entry"]) (sc := defScope s_counting) (by decide +kernel)) (fun _ _ _ _ _ => by exact (pg_name (i := 1) sc_counting.nd rfl (by first | exact Or.inl rfl | exact Or.inr rfl))) (fun _ _ _ _ _ => by exact pts_one (pt_cmpR op_le (pe_fld (pv 1) (by rfl)) (pe_fld (pv 0) (by rfl)) (nomark _))) (fun _ _ _ _ _ => by exact (pv 1)))))), ?_⟩)
  · obtain ⟨a, ae, s, rfl, _⟩ := h
    rfl
  · obtain ⟨a, ae, s, rfl, ⟨dx, el, h1, h2, h3, h4⟩, hl, k⟩ := h
    have hfe : Ev (tFld K (tVar 0) "entries") (start ["ledger", "entry"] [.ref a]) H (.ref ae) := ev_fld (ev_var rfl) h1 T.clL T.nL4 rfl
    have hfh : Ev (tFld K (tVar 0) "horizon") (start ["ledger", "entry"] [.ref a]) H (.int (hzI s.horizon)) := ev_fld (ev_var rfl) h1 T.clL T.nL3 rfl
    refine q_when (et_test (ev_op hfh ev_c (rv_eq rfl))) (fun hb H1 e1 => ?_) (fun hb H1 e1 => ?_)
    · have hn := hz_none.mp hb
      refine s_retL (el_list (hfe.mono e1) (sq_of (e1 _ _ h2))) fun p H2 n2 e2 h5 => k _ _ (e1.trans e2) ⟨p, el, rfl, h5, ?_, h4.mono (e1.trans e2)⟩
      rw [h3]
      unfold cnt Kex3.hasArrived
      rw [hn]
      exact (List.filter_eq_self.mpr fun _ _ => rfl).symm
    · have hn : s.horizon ≠ none := fun z => by
        rw [hz_none.mpr z] at hb
        cases hb
      obtain ⟨hz, hs⟩ := Option.ne_none_iff_exists'.mp hn
      refine s_retL (el_lc (xs := el) (src := fun x => V.ref x.1) (fun x => Kex3.hasArrived s x.2) (fun x => V.ref x.1) (hfe.mono e1) (sq_of (e1 _ _ h2)) ?_ (fun _ => rfl) fun x hx H' e => ?_) fun D H' _ e q =>
        k _ _ (e1.trans e) ⟨D, el.filter fun x => Kex3.hasArrived s x.2, rfl, q, ?_, fun y hy => (h4 y (List.mem_filter.mp hy).1).mono (e1.trans e)⟩
      · rw [snd_len h3]
        omega
      · obtain ⟨dx2, t2, q1, q2⟩ := h4 x hx
        have e12 := e1.trans e
        refine ⟨et_is (et_test (ev_op (ev_fld (ev_var rfl) (e12 _ _ q1) T.clE T.nE2 rfl) (ev_fld (ev_var rfl) (e12 _ _ h1) T.clL T.nL3 rfl) rv_I0)) ?_, fun _ => ev_var rfl⟩
        unfold Kex3.hasArrived hzI
        rw [hs]
        simp
      · rw [snd_filter, h3]
        rfl
theorem evp_counting {σ : L2.St} {H : Hp} {i : Nat} {a ae : Addr} {s : Store} (hv : σ[i]? = some (some (.ref a))) (h : LedAt A H a ae s) (g : s.records.length ≤ 60) : EvP (tCall (spCounting A) [] E0 (tCons (tVar i) tNil)) σ H (ResEnts A (cnt s)) :=
  evp_call (ea_cons (ev_var hv) ea_nil) fun H1 e1 Q k => ⟨a, ae, s, rfl, h.mono e1, g, k⟩
/-! ### is_late -/
abbrev s_is_late : Stmt := top 9
theorem sc_is_late : FnScope ["ledger", "entry"] ["ledger", "entry"] (defScope s_is_late) := ⟨rfl, rfl, rfl, by decide +kernel, rfl, by decide +kernel, by decide +kernel⟩
def spLate (A : Adr) : Sp := fun vs H Q _ => ∃ a ae s e r, vs = [.ref a, .ref e] ∧ LedAt A H a ae s ∧ EntAt A H e r ∧ RetP (fun v _ => v = .bl (Kex3.isLate s r)) H Q
theorem ok_is_late (T : Txt K w mg A) (F : FunH K mg "is_late" s_is_late ["ledger", "entry"]) (G_kind_of : Has P w K mg base 1 "kind_of" (spKind A)) : Has P w K mg base 2 "is_late" (spLate A) := by
  refine F.ok sc_is_late (fun vs H Q E h => ?_) (fun f cdv Ar outer s H vs Q E hr h => ⟨_, (pss_one (ps_ret (pe_and (pe_cmpR op_ne (pe_callH G_kind_of (hr.mono (by decide)) (by rfl) (pa_cons (pv 1) pa_nil)) (pe_gint (by rfl) T.g_RETRACTION) (nomark _)) (pe_one (pe_cmpR op_gt (pe_fld (pv 1) (by rfl)) (pe_op op_add (pe_ix ix_tup (pe_fld (pv 1) (by rfl)) pe_int (fun _ _ => rfl)) (pe_fld (pv 0) (by rfl))) (nomark _)))))), ?_⟩)
  · obtain ⟨a, ae, s, e, r, rfl, _⟩ := h
    rfl
  · obtain ⟨a, ae, s, e, r, rfl, ⟨dx, el, h1, h2, h3, h4⟩, he, k⟩ := h
    obtain ⟨dx2, t, q1, q2⟩ := id he
    refine s_ret (ev_is (ev_andV (ev_op (ev_kind rfl he) ev_c (rv_ne rfl)) fun _ => ev_op (ev_fld (ev_var rfl) q1 T.clE T.nE2 rfl) (ev_op (ev_op (ev_fld (ev_var rfl) q1 T.clE T.nE3 rfl) ev_c (rv_ixT (con_at q2) (atI_nat (j := 0) rfl))) (ev_fld (ev_var rfl) h1 T.clL T.nL2 rfl) rv_I0) rv_I0) ?_) fun H1 e1 => k _ H1 e1 rfl
    unfold Kex3.isLate
    rw [show (2 : Int) = ((2 : Nat) : Int) from rfl, int_eq]
    exact congrArg V.bl (congrArg (and (r.content.kind != 2)) (dec_is (by omega)))
theorem ev_late {σ : L2.St} {H : Hp} {i j : Nat} {a ae e : Addr} {s : Store} {r : Record} (hv : σ[i]? = some (some (.ref a))) (hw : σ[j]? = some (some (.ref e))) (h : LedAt A H a ae s) (h2 : EntAt A H e r) :
    Ev (tCall (spLate A) [] E0 (tCons (tVar i) (tCons (tVar j) tNil))) σ H (.bl (Kex3.isLate s r)) :=
  ev_callV (ea_cons (ev_var hv) (ea_cons (ev_var hw) ea_nil)) fun H1 e1 Q k => ⟨a, ae, s, e, r, rfl, h.mono e1, h2.mono e1, k⟩
end
end Late

/-! D2: the defs of contents, further. -/
namespace Late
open PySem PySem.Spec PyProof.Rows L2 Evl
open Kex3 (Record Content Store)
section
variable {P : Program} {w : World} {K : PySem.W.Frag} {mg : Str → Option Value} {base : Heap} {A : Adr}
/-! ### retracted_numbers -/
abbrev s_retracted_numbers : Stmt := top 10
theorem sc_retracted_numbers : FnScope ["ledger", "found", "entry"] ["ledger"] (defScope s_retracted_numbers) := ⟨rfl, rfl, rfl, by decide +kernel, rfl, by decide +kernel, by decide +kernel⟩
def tru : Unit → V := fun _ => .bl true
def ResRet (l : List Record) : V → Hp → Prop := fun v H => ∃ p, v = .ref p ∧ H p = some (.dK (encD tru (retD l)))
def spRetr (A : Adr) : Sp := fun vs H Q _ => ∃ a ae s, vs = [.ref a] ∧ LedAt A H a ae s ∧ s.records.length ≤ 60 ∧ RetP (ResRet (cnt s)) H Q
theorem take_len {α : Type} (i : Nat) (l : List α) : (l.take i).length ≤ l.length := by
  rw [List.length_take]
  exact Nat.min_le_right _ _
theorem cnt_le {s : Store} (g : s.records.length ≤ 60) : (cnt s).length ≤ 60 := Nat.le_trans (List.length_filter_le _ _) g
theorem ok_retracted_numbers (T : Txt K w mg A) (F : FunH K mg "retracted_numbers" s_retracted_numbers ["ledger"]) (G_kind_of : Has P w K mg base 1 "kind_of" (spKind A)) (G_counting : Has P w K mg base 1 "counting" (spCounting A)) :
    Has P w K mg base 2 "retracted_numbers" (spRetr A) := by
  refine F.ok sc_retracted_numbers (fun vs H Q E h => ?_) (fun f cdv Ar outer s H vs Q E hr h => ⟨_, by have hu := hu_of hr; exact (pss_cons (ps_set (i := 1) sc_retracted_numbers.nd rfl (by first | exact Or.inl rfl | exact Or.inr rfl) pe_dnewK)   (pss_cons (ps_for PassesOwn.never rfl (pi_list (pe_callH G_counting (hr.mono (by decide)) (by rfl) (pa_cons (pv 0) pa_nil))) (pg_name (i := 2) sc_retracted_numbers.nd rfl (by first | exact Or.inl rfl | exact Or.inr rfl)) (pss_one (ps_if (pt_cmpR op_eq (pe_callH G_kind_of (hr.mono (by decide)) (by rfl) (pa_cons (pv 2) pa_nil)) (pe_gint (by rfl) T.g_RETRACTION) (nomark _)) (pss_one (ps_dput hu (pv 1) (pe_fld (pv 2) (by rfl)) pe_bl rfl)) pss_nil)))   (pss_one (ps_ret (pv 1))))), ?_⟩)
  · obtain ⟨a, ae, s, rfl, _⟩ := h
    rfl
  · obtain ⟨a, ae, s, rfl, hL, g, k⟩ := h
    refine q_dnew fun d hd => ?_
    have e0 : Ex H (upd H d (.dK [])) := Ex.new hd
    refine evp_counting rfl (hL.mono e0) g _ (Ex.refl _) _ fun v H2 e2 ⟨p, el, ev, h1, h2, h3⟩ => ?_
    subst ev
    have d2 : H2 d = some (.dK []) := e2 _ _ upd_same
    refine ⟨p, rfl, ⟨_, sq_of h1⟩, for_listN (fun i σ' H' => ∃ x, σ' = [some (.ref a), some (.ref d), x] ∧ ExB d H2 H' ∧ H' d = some (.dK (encD tru (retD ((cnt s).take i))))) ⟨_, rfl, ExB.refl, d2⟩
      (fun i σ' H' _ q => exb_l (noL_dK d2) q.choose_spec.2.1 (sq_of h1)) ?_ ?_⟩
    · rintro i x σ' H' hx ⟨y, rfl, q1, q2⟩
      obtain ⟨z, hz, rfl⟩ := ref_at hx
      have hr2 := snd_at h2 hz
      have he : EntAt A H' z.1 z.2 := (h3 z (mem_of_at hz)).exb (noL_dK d2).t q1
      have hi : (cnt s).take (i + 1) = (cnt s).take i ++ [z.2] := take_succ hr2
      have hlen : (retD ((cnt s).take i)).length ≤ 60 := Nat.le_trans (retD_len _) (Nat.le_trans (take_len _ _) (cnt_le g))
      refine s_when (et_test (ev_op (ev_kind rfl he) ev_c (rv_eq rfl))) (fun hb H3 e3 => ?_) (fun hb H3 e3 => ?_)
      · rw [show (2 : Int) = ((2 : Nat) : Int) from rfl, int_eq] at hb
        obtain ⟨dx, t, r1, r2⟩ := he.mono e3
        refine s_dput (k := natK z.2.id) ev_c (ev_var rfl) (ev_fld (ev_var rfl) r1 T.clE T.nE1 rfl) (e3 _ _ q2) (by rw [encD_len]; omega) fun H4 e4 => ⟨_, rfl, (q1.andThen (e3.trans e4)).put, ?_⟩
        rw [upd_same, hi, retD_snoc]
        unfold retStep
        rw [if_pos hb]
        exact congrArg (fun l => some (HO.dK l)) (encD_put (f := tru) _ _ ())
      · rw [show (2 : Int) = ((2 : Nat) : Int) from rfl, int_eq] at hb
        refine ⟨_, rfl, q1.andThen e3, ?_⟩
        rw [e3 _ _ q2, hi, retD_snoc]
        unfold retStep
        rw [if_neg (by rw [hb]; simp)]
    · rintro σ' H' ⟨y, rfl, q1, q2⟩
      rw [refs_len, snd_len h2, List.take_length] at q2
      exact s_ret (ev_var rfl) fun H3 e3 => k _ _ ((ExB.base (e0.trans e2) hd q1).trans e3) ⟨d, rfl, e3 _ _ q2⟩
theorem evp_retr {σ : L2.St} {H : Hp} {i : Nat} {a ae : Addr} {s : Store} (hv : σ[i]? = some (some (.ref a))) (h : LedAt A H a ae s) (g : s.records.length ≤ 60) : EvP (tCall (spRetr A) [] E0 (tCons (tVar i) tNil)) σ H (ResRet (cnt s)) :=
  evp_call (ea_cons (ev_var hv) ea_nil) fun H1 e1 Q k => ⟨a, ae, s, rfl, h.mono e1, g, k⟩
/-! ### effective_of -/
abbrev s_effective_of : Stmt := top 11
theorem sc_effective_of : FnScope ["ledger", "retracted", "found", "entry", "number"] ["ledger"] (defScope s_effective_of) := ⟨rfl, rfl, rfl, by decide +kernel, rfl, by decide +kernel, by decide +kernel⟩
def aref : Addr × Content → V := fun x => .ref x.1
def ConsAt (H : Hp) (d : List (Nat × (Addr × Content))) : Prop := ∀ x ∈ d, H x.2.1 = some (.tup ((conI x.2.2).map V.int))
def ResEff (s : Store) : V → Hp → Prop := fun v H => ∃ p d, v = .ref p ∧ H p = some (.dK (encD aref d)) ∧ EffD s (cnt s) d ∧ ConsAt H d
def spEff (A : Adr) : Sp := fun vs H Q _ => ∃ a ae s, vs = [.ref a] ∧ LedAt A H a ae s ∧ s.records.length ≤ 60 ∧ RetP (ResEff s) H Q
theorem ConsAt.mono {H H' : Hp} {d : List (Nat × (Addr × Content))} (e : Ex H H') (h : ConsAt H d) : ConsAt H' d := fun x hx => e _ _ (h x hx)
theorem ev_ltT {σ : L2.St} {H : Hp} {ta tb : TE} {x y : Addr} {a b : Content} (ha : Ev ta σ H (.ref x)) (hb : Ev tb σ H (.ref y)) (h1 : H x = some (.tup ((conI a).map V.int))) (h2 : H y = some (.tup ((conI b).map V.int))) :
    Ev (tOp (rLtT K) ta tb) σ H (.bl (Kex3.isBefore a b)) :=
  ev_op ha hb fun H1 e Q q => ⟨x, y, conI a, conI b, rfl, rfl, st_of (e _ _ h1), st_of (e _ _ h2), by rw [lex_con]; exact q H1 (Ex.refl _)⟩
theorem ok_effective_of (T : Txt K w mg A) (F : FunH K mg "effective_of" s_effective_of ["ledger"]) (G_kind_of : Has P w K mg base 1 "kind_of" (spKind A)) (G_counting : Has P w K mg base 1 "counting" (spCounting A))
    (G_is_late : Has P w K mg base 2 "is_late" (spLate A)) (G_retracted_numbers : Has P w K mg base 2 "retracted_numbers" (spRetr A)) : Has P w K mg base 3 "effective_of" (spEff A) := by
  refine F.ok sc_effective_of (fun vs H Q E h => ?_) (fun f cdv Ar outer s H vs Q E hr h => ⟨_, by have hu := hu_of hr; exact (pss_cons (ps_set (i := 1) sc_effective_of.nd rfl (by first | exact Or.inl rfl | exact Or.inr rfl) (pe_callH G_retracted_numbers (hr.mono (by decide)) (by rfl) (pa_cons (pv 0) pa_nil)))   (pss_cons (ps_set (i := 2) sc_effective_of.nd rfl (by first | exact Or.inl rfl | exact Or.inr rfl) pe_dnewK)   (pss_cons (ps_for PassesOwn.never rfl (pi_list (pe_callH G_counting (hr.mono (by decide)) (by rfl) (pa_cons (pv 0) pa_nil))) (pg_name (i := 3) sc_effective_of.nd rfl (by first | exact Or.inl rfl | exact Or.inr rfl)) (pss_cons (ps_set (i := 4) sc_effective_of.nd rfl (by first | exact Or.inl rfl | exact Or.inr rfl) (pe_fld (pv 3) (by rfl)))   (pss_one (ps_if (PW.pt (pw_and (pt_cmpR op_ne (pe_callH G_kind_of (hr.mono (by decide)) (by rfl) (pa_cons (pv 3) pa_nil)) (pe_gint (by rfl) T.g_RETRACTION) (nomark _)) (pw_and (pt_cmp (pc_dnotin hu (pv 4) (pv 1))) (pw_and1 (pt_not (pt_val (pe_callH G_is_late (hr.mono (by decide)) (by rfl) (pa_cons (pv 0) (pa_cons (pv 3) pa_nil))))))))) (pss_one (ps_if (PW.pt (pw_or (pt_cmp (pc_dnotin hu (pv 4) (pv 2))) (pw_or1 (pt_cmpR (op_ltT hr.units0) (pe_fld (pv 3) (by rfl)) (pe_dget hu (pv 2) (pv 4) (fun _ _ => rfl)) (nomark _))))) (pss_one (ps_dput hu (pv 2) (pv 4) (pe_fld (pv 3) (by rfl)) rfl)) pss_nil)) pss_nil))))   (pss_one (ps_ret (pv 2)))))), ?_⟩)
  · obtain ⟨a, ae, s, rfl, _⟩ := h
    rfl
  · obtain ⟨a, ae, s, rfl, hL, g, k⟩ := h
    refine q_asgP (evp_retr rfl hL g) fun v H1 e1 ⟨pr, ev, hret⟩ => ?_
    subst ev
    refine q_dnew fun d hd => ?_
    have e0 : Ex H1 (upd H1 d (.dK [])) := Ex.new hd
    refine evp_counting rfl (hL.mono (e1.trans e0)) g _ (Ex.refl _) _ fun v H2 e2 ⟨p, el, ev, h1, h2, h3⟩ => ?_
    subst ev
    have d2 : H2 d = some (.dK []) := e2 _ _ upd_same
    have r2 : H2 pr = some (.dK (encD tru (retD (cnt s)))) := (e0.trans e2) _ _ hret
    have npr : pr ≠ d := ne_of_none hret hd
    refine ⟨p, rfl, ⟨_, sq_of h1⟩, for_listN (fun i σ' H' => ∃ x y m, σ' = [some (.ref a), some (.ref pr), some (.ref d), x, y] ∧ ExB d H2 H' ∧ H' d = some (.dK (encD aref m)) ∧ EffD s ((cnt s).take i) m ∧ ConsAt H' m)
      ⟨_, _, [], rfl, ExB.refl, d2, EffD.nil s, fun x hx => absurd hx (by simp)⟩ (fun i σ' H' _ q => by
        obtain ⟨_, _, _, _, q, _⟩ := q
        exact exb_l (noL_dK d2) q (sq_of h1)) ?_ ?_⟩
    · rintro i x σ' H' hx ⟨y, w', m, rfl, q1, q2, q3, q4⟩
      obtain ⟨z, hz, rfl⟩ := ref_at hx
      have hr2 := snd_at h2 hz
      have he : EntAt A H' z.1 z.2 := (h3 z (mem_of_at hz)).exb (noL_dK d2).t q1
      have hLd : LedAt A H' a ae s := (hL.mono ((e1.trans e0).trans e2)).exbD d2 q1
      have hret' : H' pr = some (.dK (encD tru (retD (cnt s)))) := q1 _ _ npr r2
      have hi : (cnt s).take (i + 1) = (cnt s).take i ++ [z.2] := take_succ hr2
      have hlen : m.length ≤ 60 := Nat.le_trans q3.len (Nat.le_trans (take_len _ _) (cnt_le g))
      obtain ⟨dx, t, r1, rt⟩ := id he
      refine q_asg (ev_fld (ev_var rfl) r1 T.clE T.nE1 rfl) fun H3 e3 => ?_
      have keep : ∀ H4, Ex H' H4 → stores s ((cnt s).take i) z.2 = false → ∃ x y m, ([some (.ref a), some (.ref pr), some (.ref d), some (.ref z.1), some (.int (z.2.id : Int))] : L2.St) = [some (.ref a), some (.ref pr), some (.ref d), x, y] ∧ ExB d H2 H4 ∧ H4 d = some (.dK (encD aref m)) ∧ EffD s ((cnt s).take (i + 1)) m ∧ ConsAt H4 m := fun H4 e4 c =>
        ⟨_, _, m, rfl, q1.andThen e4, e4 _ _ q2, by rw [hi]; exact q3.keep c, q4.mono e4⟩
      have hin : (valV (encD tru (retD (cnt s))) (natK z.2.id)).isSome = Kex3.isRetracted s z.2.id := by
        rw [encD_val, ← ret_is]
        cases getN (retD (cnt s)) z.2.id <;> rfl
      have hk : Ev (tVar 4) [some (.ref a), some (.ref pr), some (.ref d), some (.ref z.1), some (.int (z.2.id : Int))] H3 (kV (natK z.2.id)) := ev_var rfl
      refine s_when (b := takes s z.2) (et_is (et_and (et_test (ev_op (ev_kind rfl (he.mono e3)) ev_c (rv_ne rfl))) fun _ => et_and (et_B (ev_dnotin (ev_var rfl) hk (.inl (e3 _ _ hret')))) fun _ => et_not (et_B (ev_late rfl rfl (hLd.mono e3) (he.mono e3)))) ?_) (fun hb H4 e4 => ?_) (fun hb H4 e4 => ?_)
      · rw [show (2 : Int) = ((2 : Nat) : Int) from rfl, int_eq, hin]
        unfold takes
        rw [Bool.and_assoc]
        rfl
      · have e34 := e3.trans e4
        obtain ⟨dx4, t4, s1, s2⟩ := he.mono e34
        have hn : Ev (tVar 4) [some (.ref a), some (.ref pr), some (.ref d), some (.ref z.1), some (.int (z.2.id : Int))] H4 (kV (natK z.2.id)) := ev_var rfl
        have hc : Ev (tFld K (tVar 3) "content") [some (.ref a), some (.ref pr), some (.ref d), some (.ref z.1), some (.int (z.2.id : Int))] H4 (.ref t4) := ev_fld (ev_var rfl) s1 T.clE T.nE3 rfl
        refine s_when (b := newer (effAt s ((cnt s).take i) z.2.id) z.2.content) ?_ (fun hb2 H5 e5 => ?_) (fun hb2 H5 e5 => ?_)
        · cases hq : effAt s ((cnt s).take i) z.2.id with
          | none =>
            refine et_is (et_or (b := true) (et_B (ev_dnotin (ev_var rfl) hn (.inl (e34 _ _ q2)))) fun hf => ?_) ?_
            · rw [encD_none (q3.none_of hq)] at hf
              cases hf
            · rw [encD_none (q3.none_of hq)]
              rfl
          | some b =>
            obtain ⟨t5, h5⟩ := q3.some_of hq
            have hv5 : valV (encD aref m) (natK z.2.id) = some (.ref t5) := encD_get h5
            have ht5 := q4 _ (getN_mem h5)
            refine et_is (et_or (et_B (ev_dnotin (ev_var rfl) hn (.inl (e34 _ _ q2)))) fun _ => et_test (ev_ltT hc (ev_dget (ev_var rfl) hn (.inl (e34 _ _ q2)) hv5) s2 (e34 _ _ ht5))) ?_
            rw [hv5]
            rfl
        · have c : stores s ((cnt s).take i) z.2 = true := by
            unfold stores
            rw [hb, hb2]
            rfl
          have hc5 := hc.mono e5
          refine s_dput (k := natK z.2.id) hc5 (ev_var rfl) (hn.mono e5) ((e34.trans e5) _ _ q2) (by rw [encD_len]; omega) fun H6 e6 => ?_
          have e36 := (e34.trans e5).trans e6
          have hcon : ConsAt H6 (putN m z.2.id (t4, z.2.content)) := fun u hu => by
            rcases mem_put hu with e | m'
            · subst e
              exact (e5.trans e6) _ _ s2
            · exact e36 _ _ (q4 u m')
          refine ⟨_, _, putN m z.2.id (t4, z.2.content), rfl, (q1.andThen e36).put, ?_, by rw [hi]; exact q3.put c t4, fun u hu => ?_⟩
          · rw [upd_same]
            exact congrArg (fun l => some (HO.dK l)) (encD_put (f := aref) _ _ (t4, z.2.content))
          · have hu6 := hcon u hu
            rw [upd_ne fun e => by
              rw [e, e36 _ _ q2] at hu6
              cases hu6]
            exact hu6
        · exact keep H5 (e34.trans e5) (by
            unfold stores
            rw [hb, hb2]
            rfl)
      · exact keep H4 (e3.trans e4) (by
          unfold stores
          rw [hb]
          rfl)
    · rintro σ' H' ⟨y, w', m, rfl, q1, q2, q3, q4⟩
      rw [refs_len, snd_len h2, List.take_length] at q3
      exact s_ret (ev_var rfl) fun H3 e3 => k _ _ (((ExB.base (e1.trans (e0.trans e2)) (fresh_back e1 hd) q1)).trans e3) ⟨d, m, rfl, e3 _ _ q2, q3, q4.mono e3⟩
theorem evp_eff {σ : L2.St} {H : Hp} {i : Nat} {a ae : Addr} {s : Store} (hv : σ[i]? = some (some (.ref a))) (h : LedAt A H a ae s) (g : s.records.length ≤ 60) : EvP (tCall (spEff A) [] E0 (tCons (tVar i) tNil)) σ H (ResEff s) :=
  evp_call (ea_cons (ev_var hv) ea_nil) fun H1 e1 Q k => ⟨a, ae, s, rfl, h.mono e1, g, k⟩
end
end Late

/-! D3: rows. -/
namespace Late
open PySem PySem.Spec PyProof.Rows L2 Evl
open Kex3 (Record Content Store effectiveAll)
theorem perm_map_inv {α β : Type} {f : α → β} {ys zs : List β} (h : ys.Perm zs) : ∀ l : List α, l.map f = zs → ∃ l' : List α, l'.Perm l ∧ l'.map f = ys := by
  induction h with
  | nil =>
    intro l e
    exact ⟨l, .refl _, e⟩
  | cons x p ih =>
    intro l e
    cases l with
    | nil => cases e
    | cons a r =>
      obtain ⟨e1, e2⟩ := List.cons.inj e
      obtain ⟨l', p', q⟩ := ih r e2
      exact ⟨a :: l', p'.cons a, by rw [List.map_cons, q, e1]⟩
  | swap x y r =>
    intro l e
    match l, e with
    | a :: b :: t, e =>
      obtain ⟨e1, e2⟩ := List.cons.inj e
      obtain ⟨e3, e4⟩ := List.cons.inj e2
      exact ⟨b :: a :: t, .swap a b t, by rw [List.map_cons, List.map_cons, e1, e3, e4]⟩
  | trans p1 p2 ih1 ih2 =>
    intro l e
    obtain ⟨l2, q2, r2⟩ := ih2 l e
    obtain ⟨l1, q1, r1⟩ := ih1 l2 r2
    exact ⟨l1, q1.trans q2, r1⟩
section
variable {P : Program} {w : World} {K : PySem.W.Frag} {mg : Str → Option Value} {base : Heap} {A : Adr}
def ResRows (K : PySem.W.Frag) (l : List Row) : V → Hp → Prop := fun v H => ∃ p, v = .ref p ∧ RowsL K H p l
/-! ### effective_rows -/
abbrev s_effective_rows : Stmt := top 12
theorem sc_effective_rows : FnScope ["ledger", "known", "number"] ["ledger"] (defScope s_effective_rows) := ⟨rfl, rfl, rfl, by decide +kernel, rfl, by decide +kernel, by decide +kernel⟩
def spRows (K : PySem.W.Frag) (A : Adr) : Sp := fun vs H Q _ => ∃ a ae s, vs = [.ref a] ∧ LedAt A H a ae s ∧ Good s ∧ RetP (ResRows K (effectiveAll s)) H Q
/-- the tuples that the program makes -/
def Made (x : Nat × (Addr × Content)) (v : V) (H : Hp) : Prop := ∃ t, v = .ref t ∧ H t = some (.tup ((rowI (x.2.2, x.1)).map V.int))
theorem made_rows (K : PySem.W.Frag) {H : Hp} : ∀ {tl : List ((Nat × (Addr × Content)) × V)}, (∀ x ∈ tl, Made x.1 x.2 H) → ∃ zl : List (Addr × Row), refs zl = tl.map (·.2) ∧ zl.map (·.2) = rowsOf (tl.map (·.1)) ∧ RowsAt K H zl
  | [], _ => ⟨[], rfl, rfl, fun x hx => absurd hx (by simp)⟩
  | x :: tl, h => by
    obtain ⟨zl, h1, h2, h3⟩ := made_rows K fun y hy => h y (List.mem_cons_of_mem _ hy)
    obtain ⟨t, e, q⟩ := h x List.mem_cons_self
    refine ⟨(t, (x.1.2.2, x.1.1)) :: zl, ?_, ?_, fun y hy => ?_⟩
    · show V.ref t :: refs zl = x.2 :: tl.map (·.2)
      rw [h1, e]
    · show (x.1.2.2, x.1.1) :: zl.map (·.2) = _
      rw [h2]
      rfl
    · rcases List.mem_cons.mp hy with e | m
      · rw [e]
        exact st_of q
      · exact h3 y m
theorem ok_effective_rows (T : Txt K w mg A) (F : FunH K mg "effective_rows" s_effective_rows ["ledger"]) (G_effective_of : Has P w K mg base 3 "effective_of" (spEff A)) : Has P w K mg base 4 "effective_rows" (spRows K A) := by
  refine F.ok sc_effective_rows (fun vs H Q E h => ?_) (fun f cdv Ar outer s H vs Q E hr h => ⟨_, by have hu := hu_of hr; exact (pss_cons (ps_set (i := 1) sc_effective_rows.nd rfl (by first | exact Or.inl rfl | exact Or.inr rfl) (pe_callH G_effective_of (hr.mono (by decide)) (by rfl) (pa_cons (pv 0) pa_nil)))   (pss_one (ps_ret (pe_callB (cr_sortT (d := 6) (B := 100001) (by decide)) (by rfl) T.n_sorted (by decide +kernel) (pa_cons (pe_lock <| pe_lc (own := [("number", 2)]) (g := (gName 2)) (tt := tYes) (te := (tOp (rCatT K) (tDGet (tVar 1) (tVar 2)) (tTup (tCons (tVar 2) tNil)))) (by rfl) sc_effective_rows.nd (pi_keys (pv 1)) (blkOk_by (own := [("number", 2)]) (N := ["ledger", "known", "number"]) (sc := defScope s_effective_rows) (by decide +kernel)) (fun _ _ _ _ _ => by exact (pg_name (i := 2) sc_effective_rows.nd rfl (by first | exact Or.inl rfl | exact Or.inr rfl))) (fun _ _ _ _ _ => pts_nil) (fun _ _ _ _ _ => by exact (pe_op op_catT (pe_dget hu (pv 1) (pv 2) (fun _ _ => rfl)) (pe_tup (pa_cons (pv 2) pa_nil))))) pa_nil))))), ?_⟩)
  · obtain ⟨a, ae, s, rfl, _⟩ := h
    rfl
  · obtain ⟨a, ae, s, rfl, hL, g, k⟩ := h
    refine q_asgP (evp_eff rfl hL g.len) fun v H1 e1 ⟨p, d, ev, h1, h2, h3⟩ => ?_
    subst ev
    have hlen : d.length ≤ 60 := eff_len g h2
    refine ⟨p, _, h1, trivial, fun od => ⟨_, rfl, p, od, rfl, .inl ⟨_, upd_same, fun D hD => ?_⟩⟩⟩
    refine lc_fill (xs := d) (walk_keys (kvs := encD aref d)) (encD_len d) (by omega) (fun _ => true) (fun x v _ => v = .int (x.1 : Int)) Made hD (fun H' e => e _ _ upd_same) (fun i x H2 H' hi e y => ?_) (fun x v H2 H' e ⟨t, q1, q2⟩ => ⟨t, q1, e _ _ q2⟩) (fun x v H2 l l' hl ⟨t, q1, q2⟩ => ⟨t, q1, ?_⟩) (fun x hx v H' e sv => ?_) fun H' tl e q1 q2 q3 => ?_
    · obtain ⟨rfl, kk, vv, q, rfl⟩ := y
      unfold encD at q
      rw [List.getElem?_map] at q
      cases qd : d[i]? with
      | none => rw [qd] at q; cases q
      | some z =>
        rw [qd] at q
        cases q
        exact ⟨z, rfl, Ex.refl _, rfl⟩
    · rw [upd_ne fun z => by rw [z, hl] at q2; cases q2]
      exact q2
    · subst sv
      refine ⟨_, fun _ r => r, rfl, fun H2 e2 Q' q => q H2 (Ex.refl _), fun _ H2 e2 Q' q => ?_⟩
      have hrd : Rd H2 p (.dK (encD aref d)) := .inr ⟨od, (e.trans e2) _ _ upd_same⟩
      have hv : valV (encD aref d) (natK x.1) = some (.ref x.2.1) := encD_get (mem_getN (v := x.2) h2.nd hx)
      have hc : H2 x.2.1 = some (.tup ((conI x.2.2).map V.int)) := by
        have h3x := h3 x hx
        refine (e.trans e2) _ _ ?_
        rw [upd_ne fun z => by rw [z, h1] at h3x; cases h3x]
        exact h3x
      have hk : Ev (tVar 2) ((wipe ((L2.start ["ledger", "known", "number"] [.ref a]).set 1 (some (.ref p))) [2]).set 2 (some (.int (x.1 : Int)))) H2 (kV (natK x.1)) := ev_var rfl
      refine ev_dget (ev_var rfl) hk hrd hv H2 (Ex.refl _) _ fun H3 e3 => ?_
      refine eu_tup (ea_cons (ev_var rfl) ea_nil) (by show 1 ≤ 100000; decide) H3 (Ex.refl _) _ fun pt H4 nt e4 ht => ?_
      refine ⟨x.2.1, pt, _, _, rfl, rfl, st_of ((e3.trans e4) _ _ hc), st_of ht, by simp [conI], by simp [conI, sizeLine], ⟨fun z => (by cases z), fun _ r hr0 => ?_⟩⟩
      refine q _ _ ((e3.trans e4).trans (Ex.new hr0)) ⟨r, rfl, ?_⟩
      rw [upd_same]
      rfl
    · -- behind the comprehension: the dict is free again, the new list is sorted
      have q1' : tl.map (·.1) = d := by
        rw [q1]
        exact List.filter_eq_self.mpr fun _ _ => rfl
      refine ⟨e _ _ upd_same, ?_⟩
      have eb : Ex H1 (upd H' p (.dK (encD aref d))) := lock_back h1 e
      have dl : upd H' p (.dK (encD aref d)) D = some (.lst (tl.map (·.2))) := lock_ne e hD q2
      obtain ⟨zl, z1, z2, z3⟩ := made_rows K (H := upd H' p (.dK (encD aref d))) (tl := tl) fun x hx => by
        obtain ⟨t, r1, r2⟩ := q3 x hx
        refine ⟨t, r1, ?_⟩
        rw [upd_ne fun z => by rw [z, e _ _ upd_same] at r2; cases r2]
        exact r2
      rw [q1'] at z2
      have good : ∀ x ∈ zl, GoodZ x.2 := fun x hx => good_raw g ((rowsOf_mem g h2).mp (by rw [← z2]; exact List.mem_map.mpr ⟨x, hx, rfl⟩))
      refine ⟨D, refs zl, rfl, ?_, ?_, fun v hv => ?_, fun ys p2 hp hs n2 => ?_⟩
      · rw [z1]
        exact sq_of dl
      · rw [refs_len, snd_len z2]
        unfold rowsOf
        rw [List.length_map]
        omega
      · obtain ⟨x, hx, rfl⟩ := List.mem_map.mp hv
        exact ⟨rowI x.2, ⟨x.1, rfl, z3 x hx⟩, rfl, bd_row (good x hx)⟩
      · obtain ⟨yl, y1, y2⟩ := perm_map_inv (f := fun x : Addr × Row => V.ref x.1) hp zl rfl
        have y3 : RowsAt K (upd H' p (.dK (encD aref d))) yl := fun x hx => z3 x (y1.mem_iff.mp hx)
        have e2 : Ex (upd H' p (.dK (encD aref d))) (upd (upd H' p (.dK (encD aref d))) p2 (.lst ys)) := Ex.new n2
        refine k _ _ (e1.trans (eb.trans e2)) ⟨p2, rfl, yl, ?_, ?_, y3.mono e2⟩
        · refine rows_sorted g h2 (key_rows fun z hz => good_raw g hz) (by rw [← z2]; exact y1.map _) ?_
          rw [← y2, List.pairwise_map] at hs
          rw [List.pairwise_map]
          refine List.Pairwise.imp_of_mem ?_ hs
          intro x y hx hy r
          exact r _ _ ⟨x.1, rfl, y3 x hx⟩ ⟨y.1, rfl, y3 y hy⟩
        · rw [show refs yl = ys from y2]
          exact sq_of upd_same
theorem evp_rows {σ : L2.St} {H : Hp} {i : Nat} {a ae : Addr} {s : Store} (hv : σ[i]? = some (some (.ref a))) (h : LedAt A H a ae s) (g : Good s) : EvP (tCall (spRows K A) [] E0 (tCons (tVar i) tNil)) σ H (ResRows K (effectiveAll s)) :=
  evp_call (ea_cons (ev_var hv) ea_nil) fun H1 e1 Q k => ⟨a, ae, s, rfl, h.mono e1, g, k⟩
/-! ### rows by a test -/
theorem evp_pick {σ : L2.St} {H : Hp} {j : Nat} {te0 : TE} {tt : TT} {vs : List Nat} {l : List Row} (p : Row → Bool) (h : EvP te0 σ H (ResRows K l)) (hz : l.length ≤ 40000) (hw : ∀ x, wipe ((wipe σ vs).set j (some x)) vs = wipe σ vs) (hj : ∀ x, ((wipe σ vs).set j (some x))[j]? = some (some x))
    (turn : ∀ t z H', Ex H H' → z ∈ l → SqT K H' t ((rowI z).map V.int) → EvT tt ((wipe σ vs).set j (some (.ref t))) H' (p z)) : EvP (tLc (iList K te0) (gName j) tt (tVar j) vs) σ H (ResRows K (l.filter p)) :=
  evp_lc (α := Addr × Row) (src := fun x => V.ref x.1) (fun x => p x.2) (fun x => V.ref x.1) h hw fun v H1 e1 ⟨q, ev, tl, h1, h2, h3⟩ => by
    refine ⟨q, tl, ev, h2, by rw [snd_len h1]; exact hz, fun x hx H' e => ⟨turn x.1 x.2 H' (e1.trans e) (by rw [← h1]; exact List.mem_map.mpr ⟨x, hx, rfl⟩) (ex_t e (h3 x hx)), fun _ => ev_var (hj _)⟩, fun D H' e s => ⟨D, rfl, tl.filter fun x => p x.2, ?_, sq_of s, fun x hx => ex_t e (h3 x (List.mem_filter.mp hx).1)⟩⟩
    rw [snd_filter, h1]
theorem evp_rowvar {σ : L2.St} {H : Hp} {i : Nat} {a : Addr} {l : List Row} (hv : σ[i]? = some (some (.ref a))) (h : RowsL K H a l) : EvP (tVar i) σ H (ResRows K l) := (ev_p (ev_var hv)).imp fun v H2 e q => ⟨a, q, h.mono e⟩
theorem ev_ix {σ : L2.St} {H : Hp} {ta : TE} {t : Addr} {z : Row} {j : Nat} {v : V} (ha : Ev ta σ H (.ref t)) (h : SqT K H t ((rowI z).map V.int)) (hj : ((rowI z).map V.int)[j]? = some v) : Ev (tOp (rIxT K) ta (tC (.int (j : Int)))) σ H v :=
  ev_op ha ev_c (rv_ixT h (atI_nat hj))
theorem eqb (a b : Nat) : decide (V.int (a : Int) = V.int (b : Int)) = (a == b) := int_eq a b
abbrev s_unit_rows : Stmt := top 13
theorem sc_unit_rows : FnScope ["ledger", "unit", "row"] ["ledger", "unit"] (defScope s_unit_rows) := ⟨rfl, rfl, rfl, by decide +kernel, rfl, by decide +kernel, by decide +kernel⟩
def spUnit (K : PySem.W.Frag) (A : Adr) : Sp := fun vs H Q _ => ∃ a ae s u, vs = [.ref a, .int ((u : Nat) : Int)] ∧ LedAt A H a ae s ∧ Good s ∧ RetP (ResRows K (ofU (effectiveAll s) u)) H Q
theorem ok_unit_rows (T : Txt K w mg A) (F : FunH K mg "unit_rows" s_unit_rows ["ledger", "unit"]) (G_effective_rows : Has P w K mg base 4 "effective_rows" (spRows K A)) : Has P w K mg base 5 "unit_rows" (spUnit K A) := by
  refine F.ok sc_unit_rows (fun vs H Q E h => ?_) (fun f cdv Ar outer s H vs Q E hr h => ⟨_, (pss_one (ps_ret (pe_lc (own := [("row", 2)]) (g := (gName 2)) (tt := (tTest (tOp rEq (tOp (rIxT K) (tVar 2) (tC (.int 1))) (tVar 1)))) (te := (tVar 2)) (by rfl) sc_unit_rows.nd (pi_list (pe_callH G_effective_rows (hr.mono (by decide)) (by rfl) (pa_cons (pv 0) pa_nil))) (blkOk_by (own := [("row", 2)]) (N := ["ledger", "unit", "row"]) (sc := defScope s_unit_rows) (by decide +kernel)) (fun _ _ _ _ _ => by exact (pg_name (i := 2) sc_unit_rows.nd rfl (by first | exact Or.inl rfl | exact Or.inr rfl))) (fun _ _ _ _ _ => by exact pts_one (pt_cmpR op_eq (pe_ix ix_tup (pv 2) pe_int (fun _ _ => rfl)) (pv 1) (nomark _))) (fun _ _ _ _ _ => by exact (pv 2))))), ?_⟩)
  · obtain ⟨a, ae, s, u, rfl, _⟩ := h
    rfl
  · obtain ⟨a, ae, s, u, rfl, hL, g, k⟩ := h
    refine s_retP (evp_pick (fun z => z.1.unit == u) (evp_rows rfl hL g) (by have := raw_len g; omega) (fun _ => rfl) (fun _ => rfl) fun t z H' e hz ht => ?_) fun v H1 e1 q => k _ _ e1 q
    exact et_is (et_test (ev_op (ev_ix (j := 1) (ev_var rfl) ht rfl) (ev_var rfl) (rv_eq rfl))) (eqb _ _)
theorem evp_unit {σ : L2.St} {H : Hp} {ta tb : TE} {a ae : Addr} {s : Store} {u : Nat} (ha : Ev ta σ H (.ref a)) (hb : Ev tb σ H (.int (u : Int))) (h : LedAt A H a ae s) (g : Good s) : EvP (tCall (spUnit K A) [] E0 (tCons ta (tCons tb tNil))) σ H (ResRows K (ofU (effectiveAll s) u)) :=
  evp_call (ea_cons ha (ea_cons hb ea_nil)) fun H1 e1 Q k => ⟨a, ae, s, u, rfl, h.mono e1, g, k⟩
abbrev s_event_rows : Stmt := top 14
theorem sc_event_rows : FnScope ["rows", "row"] ["rows"] (defScope s_event_rows) := ⟨rfl, rfl, rfl, by decide +kernel, rfl, by decide +kernel, by decide +kernel⟩
def spEvents (K : PySem.W.Frag) : Sp := fun vs H Q _ => ∃ a l, vs = [.ref a] ∧ RowsL K H a l ∧ l.length ≤ 60 ∧ RetP (ResRows K (evR l)) H Q
theorem ok_event_rows (T : Txt K w mg A) (F : FunH K mg "event_rows" s_event_rows ["rows"]) : Has P w K mg base 1 "event_rows" (spEvents K) := by
  refine F.ok sc_event_rows (fun vs H Q E h => ?_) (fun f cdv Ar outer s H vs Q E hr h => ⟨_, (pss_one (ps_ret (pe_lc (own := [("row", 1)]) (g := (gName 1)) (tt := (tTest (tOp rEq (tOp (rIxT K) (tVar 1) (tC (.int 2))) (tC (.int 1))))) (te := (tVar 1)) (by rfl) sc_event_rows.nd (pi_list (pv 0)) (blkOk_by (own := [("row", 1)]) (N := ["rows", "row"]) (sc := defScope s_event_rows) (by decide +kernel)) (fun _ _ _ _ _ => by exact (pg_name (i := 1) sc_event_rows.nd rfl (by first | exact Or.inl rfl | exact Or.inr rfl))) (fun _ _ _ _ _ => by exact pts_one (pt_cmpR op_eq (pe_ix ix_tup (pv 1) pe_int (fun _ _ => rfl)) (pe_gint (by rfl) T.g_EVENT) (nomark _))) (fun _ _ _ _ _ => by exact (pv 1))))), ?_⟩)
  · obtain ⟨a, l, rfl, _⟩ := h
    rfl
  · obtain ⟨a, l, rfl, hR, g, k⟩ := h
    refine s_retP (evp_pick (fun z => z.1.kind == 1) (evp_rowvar rfl hR) (by omega) (fun _ => rfl) (fun _ => rfl) fun t z H' e hz ht => ?_) fun v H1 e1 q => k _ _ e1 q
    exact et_is (et_test (ev_op (ev_ix (j := 2) (ev_var rfl) ht rfl) ev_c (rv_eq rfl))) (eqb _ 1)
theorem evp_events {σ : L2.St} {H : Hp} {i : Nat} {a : Addr} {l : List Row} (hv : σ[i]? = some (some (.ref a))) (h : RowsL K H a l) (g : l.length ≤ 60) : EvP (tCall (spEvents K) [] E0 (tCons (tVar i) tNil)) σ H (ResRows K (evR l)) :=
  evp_call (ea_cons (ev_var hv) ea_nil) fun H1 e1 Q k => ⟨a, l, rfl, h.mono e1, g, k⟩
abbrev s_exposure_rows : Stmt := top 15
theorem sc_exposure_rows : FnScope ["rows", "experiment", "row"] ["rows", "experiment"] (defScope s_exposure_rows) := ⟨rfl, rfl, rfl, by decide +kernel, rfl, by decide +kernel, by decide +kernel⟩
def spExpos (K : PySem.W.Frag) : Sp := fun vs H Q _ => ∃ a l x, vs = [.ref a, .int ((x : Nat) : Int)] ∧ RowsL K H a l ∧ l.length ≤ 60 ∧ RetP (ResRows K (exR l x)) H Q
theorem ok_exposure_rows (T : Txt K w mg A) (F : FunH K mg "exposure_rows" s_exposure_rows ["rows", "experiment"]) : Has P w K mg base 1 "exposure_rows" (spExpos K) := by
  refine F.ok sc_exposure_rows (fun vs H Q E h => ?_) (fun f cdv Ar outer s H vs Q E hr h => ⟨_, (pss_one (ps_ret (pe_lc (own := [("row", 2)]) (g := (gName 2)) (tt := (tAnd (tTest (tOp rEq (tOp (rIxT K) (tVar 2) (tC (.int 2))) (tC (.int 0)))) (tTest (tOp rEq (tOp (rIxT K) (tVar 2) (tC (.int 3))) (tVar 1))))) (te := (tVar 2)) (by rfl) sc_exposure_rows.nd (pi_list (pv 0)) (blkOk_by (own := [("row", 2)]) (N := ["rows", "experiment", "row"]) (sc := defScope s_exposure_rows) (by decide +kernel)) (fun _ _ _ _ _ => by exact (pg_name (i := 2) sc_exposure_rows.nd rfl (by first | exact Or.inl rfl | exact Or.inr rfl))) (fun _ _ _ _ _ => by exact pts_one (PW.pt (pw_and (pt_cmpR op_eq (pe_ix ix_tup (pv 2) pe_int (fun _ _ => rfl)) (pe_gint (by rfl) T.g_EXPOSURE) (nomark _)) (pw_and1 (pt_cmpR op_eq (pe_ix ix_tup (pv 2) pe_int (fun _ _ => rfl)) (pv 1) (nomark _)))))) (fun _ _ _ _ _ => by exact (pv 2))))), ?_⟩)
  · obtain ⟨a, l, x, rfl, _⟩ := h
    rfl
  · obtain ⟨a, l, x, rfl, hR, g, k⟩ := h
    refine s_retP (evp_pick (fun z => z.1.kind == 0 && z.1.first == x) (evp_rowvar rfl hR) (by omega) (fun _ => rfl) (fun _ => rfl) fun t z H' e hz ht => ?_) fun v H1 e1 q => k _ _ e1 q
    exact et_is (et_and (et_test (ev_op (ev_ix (j := 2) (ev_var rfl) ht rfl) ev_c (rv_eq rfl))) fun _ => et_test (ev_op (ev_ix (j := 3) (ev_var rfl) ht rfl) (ev_var rfl) (rv_eq rfl))) (by rw [eqb, ← eqb _ 0]; rfl)
theorem evp_expos {σ : L2.St} {H : Hp} {i j : Nat} {a : Addr} {l : List Row} {x : Nat} (hv : σ[i]? = some (some (.ref a))) (hw : σ[j]? = some (some (.int (x : Int)))) (h : RowsL K H a l) (g : l.length ≤ 60) : EvP (tCall (spExpos K) [] E0 (tCons (tVar i) (tCons (tVar j) tNil))) σ H (ResRows K (exR l x)) :=
  evp_call (ea_cons (ev_var hv) (ea_cons (ev_var hw) ea_nil)) fun H1 e1 Q k => ⟨a, l, x, rfl, h.mono e1, g, k⟩
end
end Late

/-! D4: what is told of the rows of one unit. -/
namespace Late
open PySem PySem.Spec PyProof.Rows L2 Evl
open Kex3 (Record Content Store effectiveAll Metric)
section
variable {K : PySem.W.Frag} {A : Adr} {σ : L2.St} {H : Hp}
def ResL (xs : List V) : V → Hp → Prop := fun v H => ∃ p, v = .ref p ∧ H p = some (.lst xs)
theorem evp_of {te : TE} {xs : List V} (h : EvL te σ H xs) : EvP te σ H (ResL xs) := fun H1 e Q q => h H1 e _ fun p H2 _ e2 hp => q _ H2 e2 ⟨p, rfl, hp⟩
theorem ev_any {te : TE} {bs : List Bool} (h : EvP te σ H (ResL (bs.map V.bl))) : Ev (tCB (rAny K) (tCons te tNil)) σ H (.bl (bs.any id)) := fun H1 e Q q =>
  h H1 e _ fun v H2 e2 ⟨p, ev, hp⟩ => ⟨p, bs, by rw [ev], sq_of hp, q H2 e2⟩
theorem ev_all {te : TE} {bs : List Bool} (h : EvP te σ H (ResL (bs.map V.bl))) : Ev (tCB (rAll K) (tCons te tNil)) σ H (.bl (bs.all id)) := fun H1 e Q q =>
  h H1 e _ fun v H2 e2 ⟨p, ev, hp⟩ => ⟨p, bs, by rw [ev], sq_of hp, q H2 e2⟩
theorem ev_sum {te : TE} {ns : List Int} (h : EvP te σ H (ResL (ns.map V.int))) : Ev (tCB (rSum K) (tCons te tNil)) σ H (.int ns.sum) := fun H1 e Q q =>
  h H1 e _ fun v H2 e2 ⟨p, ev, hp⟩ => ⟨p, ns, by rw [ev], sq_of hp, q H2 e2⟩
theorem ev_lenP {te : TE} {xs : List V} (h : EvP te σ H (ResL xs)) : Ev (tCB (rLenS K) (tCons te tNil)) σ H (.int (xs.length : Int)) := fun H1 e Q q =>
  h H1 e _ fun v H2 e2 ⟨p, ev, hp⟩ => ⟨p, xs, by rw [ev], .inl (sq_of hp), q H2 e2⟩
theorem ev_chain {r r' : R2} {ta tb tc : TE} {x y z : V} {b1 b2 : Bool} (ha : Ev ta σ H x) (hb : Ev tb σ H y) (hr : RV r x y H (.bl b1)) (hc : b1 = true → Ev tc σ H z) (hr' : b1 = true → RV r' y z H (.bl b2)) : Ev (tChain r r' ta tb tc) σ H (.bl (b1 && b2)) := fun H1 e Q q =>
  ha H1 e _ fun H2 e2 => hb H2 (e.trans e2) _ fun H3 e3 => hr H3 ((e.trans e2).trans e3) _ fun H4 e4 => ⟨b1, rfl, by
    have e14 := (e2.trans e3).trans e4
    cases b1 with
    | false =>
      rw [if_neg (by simp)]
      exact q H4 e14
    | true =>
      rw [if_pos rfl]
      exact hc rfl H4 (e.trans e14) _ fun H5 e5 => hr' rfl H5 ((e.trans e14).trans e5) _ fun H6 e6 => q H6 ((e14.trans e5).trans e6)⟩
/-- values of rows -/
theorem evp_vals {j : Nat} {te0 te : TE} {tt : TT} {vs : List Nat} {l : List Row} (p : Row → Bool) (out : Row → V) (h : EvP te0 σ H (ResRows K l)) (hz : l.length ≤ 40000) (hw : ∀ x, wipe ((wipe σ vs).set j (some x)) vs = wipe σ vs)
    (turn : ∀ t z H', Ex H H' → z ∈ l → SqT K H' t ((rowI z).map V.int) → EvT tt ((wipe σ vs).set j (some (.ref t))) H' (p z) ∧ (p z = true → Ev te ((wipe σ vs).set j (some (.ref t))) H' (out z))) : EvP (tLc (iList K te0) (gName j) tt te vs) σ H (ResL ((l.filter p).map out)) :=
  evp_lc (α := Addr × Row) (src := fun x => V.ref x.1) (fun x => p x.2) (fun x => out x.2) h hw fun v H1 e1 ⟨q, ev, tl, h1, h2, h3⟩ => by
    refine ⟨q, tl, ev, h2, by rw [snd_len h1]; exact hz, fun x hx H' e => turn x.1 x.2 H' (e1.trans e) (by rw [← h1]; exact List.mem_map.mpr ⟨x, hx, rfl⟩) (ex_t e (h3 x hx)), fun D H' e s => ⟨D, rfl, ?_⟩⟩
    rw [s, ← h1, ← snd_filter, List.map_map]
    rfl
theorem et_yes : EvT tYes σ H true := fun H1 e Q q => q H1 (Ex.refl _)
theorem filter_yes {α : Type} (l : List α) : l.filter (fun _ => true) = l := List.filter_eq_self.mpr fun _ _ => rfl
theorem ltI (a b : Nat) : decide ((a : Int) < (b : Int)) = decide (a < b) := dec_is (by omega)
theorem leI (a b : Nat) : decide ((a : Int) ≤ (b : Int)) = decide (a ≤ b) := dec_is (by omega)
theorem exR_len (l : List Row) (x : Nat) : (exR l x).length ≤ l.length := List.length_filter_le _ _
theorem evR_len (l : List Row) : (evR l).length ≤ l.length := List.length_filter_le _ _
/-- a tuple of ints -/
def ResTup (K : PySem.W.Frag) (ns : List Int) : V → Hp → Prop := fun v H => ∃ p, v = .ref p ∧ SqT K H p (ns.map V.int)
/-- the first row -/
theorem ev_row0 {ta : TE} {p t : Addr} {tl : List (Addr × Row)} {z : Row} (ha : Ev ta σ H (.ref p)) (h : SqL K H p (refs tl)) (h0 : tl[0]? = some (t, z)) : Ev (tOp (rIxL K) ta (tC (.int 0))) σ H (.ref t) :=
  ev_op ha ev_c (rv_ixL h (atI_nat (j := 0) (by unfold refs; rw [List.getElem?_map, h0]; rfl)))
end
section
variable {P : Program} {w : World} {K : PySem.W.Frag} {mg : Str → Option Value} {base : Heap} {A : Adr}
/-! ### participation -/
abbrev s_participation : Stmt := top 19
theorem sc_participation : FnScope ["rows", "experiment", "exposures", "row"] ["rows", "experiment"] (defScope s_participation) := ⟨rfl, rfl, rfl, by decide +kernel, rfl, by decide +kernel, by decide +kernel⟩
def spPart (K : PySem.W.Frag) : Sp := fun vs H Q _ => ∃ a l x, vs = [.ref a, .int ((x : Nat) : Int)] ∧ RowsL K H a l ∧ l.length ≤ 60 ∧ RetP (ResTup K (toldI (partR l x))) H Q
theorem ok_participation (T : Txt K w mg A) (F : FunH K mg "participation" s_participation ["rows", "experiment"]) (G_exposure_rows : Has P w K mg base 1 "exposure_rows" (spExpos K)) : Has P w K mg base 2 "participation" (spPart K) := by
  refine F.ok sc_participation (fun vs H Q E h => ?_) (fun f cdv Ar outer s H vs Q E hr h => ⟨_, (pss_cons (ps_set (i := 2) sc_participation.nd rfl (by first | exact Or.inl rfl | exact Or.inr rfl) (pe_callH G_exposure_rows (hr.mono (by decide)) (by rfl) (pa_cons (pv 0) (pa_cons (pv 1) pa_nil))))   (pss_cons (ps_if (pt_cmpR op_eq (pe_callB call_len_seq (by rfl) T.n_len PySem.boot_len (pa_cons (pv 2) pa_nil)) pe_int (nomark _)) (pss_one (ps_ret (pe_gref (by rfl) T.g_ABSENT))) pss_nil)   (pss_cons (ps_if (pt_val (pe_callB (cr_any rfl) (by rfl) T.n_any (by decide +kernel) (pa_cons (pe_lc (own := [("row", 3)]) (g := (gName 3)) (tt := tYes) (te := (tOp rNe (tOp (rIxT K) (tVar 3) (tC (.int 4))) (tOp (rIxT K) (tOp (rIxL K) (tVar 2) (tC (.int 0))) (tC (.int 4))))) (by rfl) sc_participation.nd (pi_list (pv 2)) (blkOk_by (own := [("row", 3)]) (N := ["rows", "experiment", "exposures", "row"]) (sc := defScope s_participation) (by decide +kernel)) (fun _ _ _ _ _ => by exact (pg_name (i := 3) sc_participation.nd rfl (by first | exact Or.inl rfl | exact Or.inr rfl))) (fun _ _ _ _ _ => pts_nil) (fun _ _ _ _ _ => by exact (pe_cmpR op_ne (pe_ix ix_tup (pv 3) pe_int (fun _ _ => rfl)) (pe_ix ix_tup (pe_ix ix_list (pv 2) pe_int (fun _ _ => rfl)) pe_int (fun _ _ => rfl)) (nomark _)))) pa_nil))) (pss_one (ps_ret (pe_gref (by rfl) T.g_CONFLICTED))) pss_nil)   (pss_one (ps_ret (pe_tup (pa_cons (pe_ix ix_tup (pe_ix ix_list (pv 2) pe_int (fun _ _ => rfl)) pe_int (fun _ _ => rfl)) (pa_cons (pe_ix ix_tup (pe_ix ix_list (pv 2) pe_int (fun _ _ => rfl)) pe_int (fun _ _ => rfl)) pa_nil)))))))), ?_⟩)
  · obtain ⟨a, l, x, rfl, _⟩ := h
    rfl
  · obtain ⟨a, l, x, rfl, hR, g, k⟩ := h
    refine q_asgP (evp_expos rfl rfl hR g) fun v H1 e1 ⟨p, ev, tl, h1, h2, h3⟩ => ?_
    subst ev
    have hl := exR_len l x
    refine q_when (et_is (et_test (ev_op (ev_len (ev_var rfl) h2) ev_c (rv_eq rfl))) (by rw [refs_len, snd_len h1])) (fun hb H2 e2 => ?_) (fun hb H2 e2 => ?_)
    · refine s_ret ev_c fun H3 e3 => k _ _ ((e1.trans e2).trans e3) ⟨A.ab, rfl, ?_⟩
      have hn : exR l x = [] := List.eq_nil_of_length_eq_zero (by simpa using hb)
      unfold partR
      rw [hn]
      exact T.tAb _
    · match hq : exR l x, h1, hb with
      | [], _, hb => simp at hb
      | z0 :: r, h1, _ =>
        match tl, h1, h2, h3 with
        | [], h1, _, _ => cases h1
        | (t0, z0') :: tr, h1, h2, h3 =>
          obtain ⟨ez, er⟩ := List.cons.inj h1
          have ez : z0' = z0 := ez
          subst ez
          have t0r : ∀ H', Ex H1 H' → SqT K H' t0 ((rowI z0').map V.int) := fun H' e => ex_t e (h3 (t0, z0') List.mem_cons_self)
          have hrows : RowsL K H2 p (z0' :: r) := ⟨(t0, z0') :: tr, h1, ex_l e2 h2, h3.mono e2⟩
          have hany : Ev (tCB (rAny K) (tCons (tLc (iList K (tVar 2)) (gName 3) tYes (tOp rNe (tOp (rIxT K) (tVar 3) (tC (.int 4))) (tOp (rIxT K) (tOp (rIxL K) (tVar 2) (tC (.int 0))) (tC (.int 4)))) [3]) tNil)) [some (.ref a), some (.int (x : Int)), some (.ref p), none] H2
              (.bl (((z0' :: r).map fun y => y.1.second != z0'.1.second).any id)) := by
            refine ev_any ?_
            have hv := evp_vals (K := K) (σ := [some (.ref a), some (.int (x : Int)), some (.ref p), none]) (H := H2) (j := 3) (te0 := tVar 2) (te := tOp rNe (tOp (rIxT K) (tVar 3) (tC (.int 4))) (tOp (rIxT K) (tOp (rIxL K) (tVar 2) (tC (.int 0))) (tC (.int 4)))) (tt := tYes) (vs := [3])
              (fun _ => true) (fun y => V.bl (y.1.second != z0'.1.second)) (evp_rowvar rfl hrows) (by rw [← hq]; omega) (fun _ => rfl) fun t z H' e hz ht => ⟨et_yes, fun _ => ?_⟩
            · rw [filter_yes] at hv
              rw [List.map_map]
              exact hv
            · refine ev_is (ev_op (ev_ix (j := 4) (ev_var rfl) ht rfl) (ev_ix (j := 4) (ev_row0 (ev_var rfl) (ex_l (e2.trans e) h2) rfl) (t0r H' (e2.trans e)) rfl) (rv_ne rfl)) ?_
              rw [eqb]
              rfl
          have hpart : partR l x = if ((z0' :: r).any fun y => y.1.second != z0'.1.second) then .conf else .part z0'.1.second z0'.1.time := by
            unfold partR
            rw [hq]
          refine q_when (et_B hany) (fun hb3 H3 e3 => ?_) (fun hb3 H3 e3 => ?_)
          · refine s_ret ev_c fun H4 e4 => k _ _ (((e1.trans e2).trans e3).trans e4) ⟨A.co, rfl, ?_⟩
            rw [List.any_map] at hb3
            rw [hpart, if_pos (show ((z0' :: r).any fun y => y.1.second != z0'.1.second) = true from hb3)]
            exact T.tCo _
          · rw [List.any_map] at hb3
            refine s_retU (eu_tup (ea_cons (ev_ix (j := 4) (ev_row0 (ev_var rfl) (ex_l (e2.trans e3) h2) rfl) (t0r H3 (e2.trans e3)) rfl) (ea_cons (ev_ix (j := 0) (ev_row0 (ev_var rfl) (ex_l (e2.trans e3) h2) rfl) (t0r H3 (e2.trans e3)) rfl) ea_nil)) (by show 2 ≤ 100000; decide)) fun q H4 nq e4 h4 => k _ _ (((e1.trans e2).trans e3).trans e4) ⟨q, rfl, ?_⟩
            rw [hpart, if_neg (by intro q; exact Bool.noConfusion (hb3.symm.trans q))]
            exact st_of h4
theorem evp_part {σ : L2.St} {H : Hp} {ta tb : TE} {a : Addr} {l : List Row} {x : Nat} (ha : Ev ta σ H (.ref a)) (hb : Ev tb σ H (.int (x : Int))) (h : RowsL K H a l) (g : l.length ≤ 60) : EvP (tCall (spPart K) [] E0 (tCons ta (tCons tb tNil))) σ H (ResTup K (toldI (partR l x))) :=
  evp_call (ea_cons ha (ea_cons hb ea_nil)) fun H1 e1 Q k => ⟨a, l, x, rfl, h.mono e1, g, k⟩
/-! ### next_time -/
abbrev s_next_time : Stmt := top 25
theorem sc_next_time : FnScope ["rows", "name", "start", "row"] ["rows", "name", "start"] (defScope s_next_time) := ⟨rfl, rfl, rfl, by decide +kernel, rfl, by decide +kernel, by decide +kernel⟩
def optI (o : Option Nat) : Int := match o with
  | some t => (t : Int)
  | none => -1
def spNext (K : PySem.W.Frag) : Sp := fun vs H Q _ => ∃ a l n t, vs = [.ref a, .int ((n : Nat) : Int), .int ((t : Nat) : Int)] ∧ RowsL K H a l ∧ l.length ≤ 60 ∧ RetP (fun v _ => v = .int (optI (nextR l n t))) H Q
theorem find_at {α : Type} {p : α → Bool} : ∀ {l : List α} {i : Nat} {x : α}, l[i]? = some x → p x = true → (∀ y ∈ l.take i, p y = false) → l.find? p = some x
  | [], i, x, h, _, _ => by simp at h
  | a :: l, 0, x, h, hp, _ => by
    have e : a = x := Option.some.inj h
    subst e
    rw [List.find?_cons, hp]
  | a :: l, i + 1, x, h, hp, hn => by
    have ha : p a = false := hn a (by simp)
    rw [List.find?_cons, ha]
    exact find_at (l := l) (i := i) h hp fun y hy => hn y (by
      rw [List.take_succ_cons]
      exact List.mem_cons_of_mem _ hy)
theorem ok_next_time (T : Txt K w mg A) (F : FunH K mg "next_time" s_next_time ["rows", "name", "start"]) (G_event_rows : Has P w K mg base 1 "event_rows" (spEvents K)) : Has P w K mg base 2 "next_time" (spNext K) := by
  refine F.ok sc_next_time (fun vs H Q E h => ?_) (fun f cdv Ar outer s H vs Q E hr h => ⟨_, (pss_cons (ps_for PassesOwn.never rfl (pi_list (pe_callH G_event_rows (hr.mono (by decide)) (by rfl) (pa_cons (pv 0) pa_nil))) (pg_name (i := 3) sc_next_time.nd rfl (by first | exact Or.inl rfl | exact Or.inr rfl)) (pss_one (ps_if (PW.pt (pw_and (pt_cmpR op_eq (pe_ix ix_tup (pv 3) pe_int (fun _ _ => rfl)) (pv 1) (nomark _)) (pw_and1 (pt_cmpR op_ge (pe_ix ix_tup (pv 3) pe_int (fun _ _ => rfl)) (pv 2) (nomark _))))) (pss_one (ps_ret (pe_ix ix_tup (pv 3) pe_int (fun _ _ => rfl)))) pss_nil)))   (pss_one (ps_ret (pe_un un_neg pe_int)))), ?_⟩)
  · obtain ⟨a, l, n, t, rfl, _⟩ := h
    rfl
  · obtain ⟨a, l, n, t, rfl, hR, g, k⟩ := h
    refine evp_events rfl hR g _ (Ex.refl _) _ fun v H1 e1 ⟨p, ev, tl, h1, h2, h3⟩ => ?_
    subst ev
    let q : Row → Bool := fun z => z.1.first == n && decide (t ≤ z.1.time)
    refine ⟨p, rfl, ⟨_, h2⟩, for_listN (fun i σ' H' => ∃ x, σ' = [some (.ref a), some (.int (n : Int)), some (.int (t : Int)), x] ∧ Ex H1 H' ∧ ∀ y ∈ (evR l).take i, q y = false) ⟨_, rfl, Ex.refl _, fun y hy => absurd hy (by simp)⟩
      (fun i σ' H' _ ⟨_, _, e, _⟩ => ex_l e h2) ?_ ?_⟩
    · rintro i x σ' H' hx ⟨y, rfl, e2, hn⟩
      obtain ⟨z, hz, rfl⟩ := ref_at hx
      have hz2 := snd_at h1 hz
      have ht := ex_t e2 (h3 z (mem_of_at hz))
      refine s_when (b := q z.2) (et_is (et_and (et_test (ev_op (ev_ix (j := 3) (ev_var rfl) ht rfl) (ev_var rfl) (rv_eq rfl))) fun _ => et_test (ev_op (ev_ix (j := 0) (ev_var rfl) ht rfl) (ev_var rfl) rv_I0)) (by rw [eqb, leI])) (fun hb H3 e3 => ?_) (fun hb H3 e3 => ?_)
      · refine s_ret (ev_ix (j := 0) (ev_var rfl) (ex_t e3 ht) rfl) fun H4 e4 => k _ _ (((e1.trans e2).trans e3).trans e4) ?_
        unfold nextR
        rw [find_at (p := q) hz2 hb hn]
        rfl
      · refine ⟨_, rfl, e2.trans e3, fun y hy => ?_⟩
        rw [take_succ hz2] at hy
        rcases List.mem_append.mp hy with m | m
        · exact hn y m
        · have : y = z.2 := by simpa using m
          rw [this]
          exact hb
    · rintro σ' H' ⟨y, rfl, e2, hn⟩
      rw [refs_len, snd_len h1, List.take_length] at hn
      refine s_ret (σ := [some (.ref a), some (.int (n : Int)), some (.int (t : Int)), y]) (ev_un ev_c ru_neg) fun H3 e3 => k _ _ ((e1.trans e2).trans e3) ?_
      unfold nextR
      rw [List.find?_eq_none.mpr fun y hy => by
        have := hn y hy
        intro c
        exact Bool.noConfusion (this.symm.trans c)]
      rfl
theorem ev_next {σ : L2.St} {H : Hp} {i j m : Nat} {a : Addr} {l : List Row} {n t : Nat} (hi : σ[i]? = some (some (.ref a))) (hj : σ[j]? = some (some (.int (n : Int)))) (hm : σ[m]? = some (some (.int (t : Int)))) (h : RowsL K H a l) (g : l.length ≤ 60) :
    Ev (tCall (spNext K) [] E0 (tCons (tVar i) (tCons (tVar j) (tCons (tVar m) tNil)))) σ H (.int (optI (nextR l n t))) :=
  ev_callV (ea_cons (ev_var hi) (ea_cons (ev_var hj) (ea_cons (ev_var hm) ea_nil))) fun H1 e1 Q k => ⟨a, l, n, t, rfl, h.mono e1, g, k⟩
end
end Late

/-! D5: funnels, retention, sessions, values, of the rows of one unit. -/
namespace Late
open PySem PySem.Spec PyProof.Rows L2 Evl
open Kex3 (Record Content Store effectiveAll Metric)
section
variable {P : Program} {w : World} {K : PySem.W.Frag} {mg : Str → Option Value} {base : Heap} {A : Adr}
def natI (ns : List Nat) : List V := ns.map fun n : Nat => V.int (n : Int)
/-! ### funnel_depth -/
abbrev s_funnel_depth : Stmt := top 26
theorem sc_funnel_depth : FnScope ["rows", "start", "names", "time", "depth", "name"] ["rows", "start", "names"] (defScope s_funnel_depth) := ⟨rfl, rfl, rfl, by decide +kernel, rfl, by decide +kernel, by decide +kernel⟩
def spDepth (K : PySem.W.Frag) : Sp := fun vs H Q _ => ∃ a l t pn ns, vs = [.ref a, .int ((t : Nat) : Int), .ref pn] ∧ RowsL K H a l ∧ l.length ≤ 60 ∧ SqL K H pn (natI ns) ∧ RetP (fun v _ => v = .int (depthR l t ns : Int)) H Q
theorem drop_at {α : Type} {l : List α} {i : Nat} {x : α} (h : l[i]? = some x) : l.drop i = x :: l.drop (i + 1) := by
  obtain ⟨hi, e⟩ := List.getElem?_eq_some_iff.mp h
  rw [List.drop_eq_getElem_cons hi, e]
theorem natI_at {ns : List Nat} {i : Nat} {x : V} (h : (natI ns)[i]? = some x) : ∃ n : Nat, ns[i]? = some n ∧ x = .int (n : Int) := by
  unfold natI at h
  rw [List.getElem?_map] at h
  cases q : ns[i]? with
  | none => rw [q] at h; cases h
  | some n =>
    rw [q] at h
    exact ⟨n, rfl, (Option.some.inj h).symm⟩
theorem ok_funnel_depth (T : Txt K w mg A) (F : FunH K mg "funnel_depth" s_funnel_depth ["rows", "start", "names"]) (G_next_time : Has P w K mg base 2 "next_time" (spNext K)) : Has P w K mg base 3 "funnel_depth" (spDepth K) := by
  refine F.ok sc_funnel_depth (fun vs H Q E h => ?_) (fun f cdv Ar outer s H vs Q E hr h => ⟨_, (pss_cons (ps_set (i := 3) sc_funnel_depth.nd rfl (by first | exact Or.inl rfl | exact Or.inr rfl) (pv 1))   (pss_cons (ps_for PassesOwn.never rfl (pi_enum (by rfl) T.n_enumerate (pa_cons (pv 2) pa_nil)) (pg_tup (by rfl) (pgs_cons (pg_name (i := 4) sc_funnel_depth.nd rfl (by first | exact Or.inl rfl | exact Or.inr rfl)) (pgs_cons (pg_name (i := 5) sc_funnel_depth.nd rfl (by first | exact Or.inl rfl | exact Or.inr rfl)) pgs_nil))) (pss_cons (ps_set (i := 3) sc_funnel_depth.nd rfl (by first | exact Or.inl rfl | exact Or.inr rfl) (pe_callH G_next_time (hr.mono (by decide)) (by rfl) (pa_cons (pv 0) (pa_cons (pv 5) (pa_cons (pv 3) pa_nil)))))   (pss_one (ps_if (pt_cmpR op_lt (pv 3) pe_int (nomark _)) (pss_one (ps_ret (pv 4))) pss_nil))))   (pss_one (ps_ret (pe_callB call_len_seq (by rfl) T.n_len PySem.boot_len (pa_cons (pv 2) pa_nil)))))), ?_⟩)
  · obtain ⟨a, l, t, pn, ns, rfl, _⟩ := h
    rfl
  · obtain ⟨a, l, t0, pn, ns, rfl, hR, g, hN, k⟩ := h
    refine q_asg (ev_var rfl) fun H1 e1 => ?_
    refine ⟨_, rfl, pn, natI ns, rfl, ex_l e1 hN, for_it (walk_enum (xs := natI ns)) (fun i σ' H' => ∃ (t : Nat) (x y : Option V), σ' = [some (.ref a), some (.int (t0 : Int)), some (.ref pn), some (.int (t : Int)), x, y] ∧ Ex H1 H' ∧ depthR l t0 ns = i + depthR l t (ns.drop i))
      ⟨t0, _, _, rfl, Ex.refl _, by simp⟩ (fun i σ' H' _ ⟨_, _, _, _, e, _⟩ => ex_l (e1.trans e) hN) ?_ ?_⟩
    · rintro i v σ' H' H2 hi ⟨t, x, y, rfl, e2, hd⟩ ⟨Tp, x1, y1, rfl, hT, rfl, hx, hy⟩
      have hx := (Option.some.inj hx).symm
      subst hx
      obtain ⟨n, hn, rfl⟩ := natI_at hy
      refine ⟨Tp, _, rfl, st_of upd_same, rfl, _, _, rfl, _, _, rfl, rfl, ?_⟩
      have e3 : Ex H1 (upd H' Tp (.tup [.int (i : Int), .int (n : Int)])) := e2.trans (Ex.new hT)
      have hR3 : RowsL K (upd H' Tp (.tup [.int (i : Int), .int (n : Int)])) a l := hR.mono (e1.trans e3)
      have hdr : ns.drop i = n :: ns.drop (i + 1) := drop_at hn
      refine q_asg (ev_next (i := 0) (j := 5) (m := 3) rfl rfl rfl hR3 g) fun H4 e4 => ?_
      rw [hdr] at hd
      cases hq : nextR l n t with
      | none =>
        refine s_when (b := true) (et_is (et_test (ev_op (ev_var rfl) ev_c rv_I0)) (by simp [optI])) (fun _ H5 e5 => ?_) (fun hb => by cases hb)
        refine s_ret (ev_var rfl) fun H6 e6 => k _ _ ((((e1.trans e3).trans e4).trans e5).trans e6) ?_
        have : depthR l t (n :: ns.drop (i + 1)) = 0 := by
          unfold depthR
          rw [hq]
        rw [hd, this]
        simp
      | some t' =>
        refine s_when (b := false) (et_is (et_test (ev_op (ev_var rfl) ev_c rv_I0)) (by
          show decide ((t' : Int) < 0) = false
          exact decide_eq_false (by omega))) (fun hb => by cases hb) (fun _ H5 e5 => ?_)
        refine ⟨t', _, _, rfl, (e3.trans e4).trans e5, ?_⟩
        have : depthR l t (n :: ns.drop (i + 1)) = depthR l t' (ns.drop (i + 1)) + 1 := by
          rw [depthR, hq]
        rw [hd, this]
        omega
    · rintro σ' H' ⟨t, x, y, rfl, e2, hd⟩
      have hlen : (natI ns).length = ns.length := by
        unfold natI
        rw [List.length_map]
      rw [hlen, List.drop_length] at hd
      refine s_ret (σ := [some (.ref a), some (.int (t0 : Int)), some (.ref pn), some (.int (t : Int)), x, y]) (ev_len (ev_var rfl) (ex_l (e1.trans e2) hN)) fun H3 e3 => k _ _ ((e1.trans e2).trans e3) ?_
      rw [hd, hlen]
      rfl
theorem ev_depth {σ : L2.St} {H : Hp} {i j m : Nat} {a pn : Addr} {l : List Row} {t : Nat} {ns : List Nat} (hi : σ[i]? = some (some (.ref a))) (hj : σ[j]? = some (some (.int (t : Int)))) (hm : σ[m]? = some (some (.ref pn))) (h : RowsL K H a l) (g : l.length ≤ 60) (hN : SqL K H pn (natI ns)) :
    Ev (tCall (spDepth K) [] E0 (tCons (tVar i) (tCons (tVar j) (tCons (tVar m) tNil)))) σ H (.int (depthR l t ns : Int)) :=
  ev_callV (ea_cons (ev_var hi) (ea_cons (ev_var hj) (ea_cons (ev_var hm) ea_nil))) fun H1 e1 Q k => ⟨a, l, t, pn, ns, rfl, h.mono e1, g, ex_l e1 hN, k⟩
/-! ### is_active -/
abbrev s_is_active : Stmt := top 27
theorem sc_is_active : FnScope ["rows", "start", "length", "period", "first", "row"] ["rows", "start", "length", "period"] (defScope s_is_active) := ⟨rfl, rfl, rfl, by decide +kernel, rfl, by decide +kernel, by decide +kernel⟩
def spActive (K : PySem.W.Frag) : Sp := fun vs H Q _ => ∃ a l t n k, vs = [.ref a, .int ((t : Nat) : Int), .int ((n : Nat) : Int), .int ((k : Nat) : Int)] ∧ RowsL K H a l ∧ l.length ≤ 60 ∧ k ≤ 1000 ∧ RetP (fun v _ => v = .bl (activeR l t n k)) H Q
theorem ok_is_active (T : Txt K w mg A) (F : FunH K mg "is_active" s_is_active ["rows", "start", "length", "period"]) (G_event_rows : Has P w K mg base 1 "event_rows" (spEvents K)) : Has P w K mg base 2 "is_active" (spActive K) := by
  refine F.ok sc_is_active (fun vs H Q E h => ?_) (fun f cdv Ar outer s H vs Q E hr h => ⟨_, (pss_cons (ps_set (i := 4) sc_is_active.nd rfl (by first | exact Or.inl rfl | exact Or.inr rfl) (pe_op op_add (pv 1) (pe_op op_mul (pv 3) (pv 2))))   (pss_one (ps_ret (pe_callB (cr_any rfl) (by rfl) T.n_any (by decide +kernel) (pa_cons (pe_lc (own := [("row", 5)]) (g := (gName 5)) (tt := tYes) (te := (tChain (rI0 fun i j => .bl (decide (i ≤ j))) (rI0 fun i j => .bl (decide (i < j))) (tVar 4) (tOp (rIxT K) (tVar 5) (tC (.int 0))) (tOp (rI0 fun i j => .int (i + j)) (tVar 4) (tVar 2)))) (by rfl) sc_is_active.nd (pi_list (pe_callH G_event_rows (hr.mono (by decide)) (by rfl) (pa_cons (pv 0) pa_nil))) (blkOk_by (own := [("row", 5)]) (N := ["rows", "start", "length", "period", "first", "row"]) (sc := defScope s_is_active) (by decide +kernel)) (fun _ _ _ _ _ => by exact (pg_name (i := 5) sc_is_active.nd rfl (by first | exact Or.inl rfl | exact Or.inr rfl))) (fun _ _ _ _ _ => pts_nil) (fun _ _ _ _ _ => by exact (pe_chain op_le op_lt (pv 4) (pe_ix ix_tup (pv 5) pe_int (fun _ _ => rfl)) (pe_op op_add (pv 4) (pv 2))))) pa_nil))))), ?_⟩)
  · obtain ⟨a, l, t, n, k, rfl, _⟩ := h
    rfl
  · obtain ⟨a, l, t, n, kk, rfl, hR, g, hk, k⟩ := h
    refine q_asg (v := .int ((t + kk * n : Nat) : Int)) (ev_is (ev_op (ev_var rfl) (ev_op (ev_var rfl) (ev_var rfl) (rv_I (.inl ⟨by omega, by omega⟩))) rv_I0) (by simp)) fun H1 e1 => ?_
    have hlen := evR_len l
    have hv := evp_vals (K := K) (σ := [some (.ref a), some (.int (t : Int)), some (.int (n : Int)), some (.int (kk : Int)), some (.int ((t + kk * n : Nat) : Int)), none]) (H := H1) (j := 5) (te0 := tCall (spEvents K) [] E0 (tCons (tVar 0) tNil))
      (te := tChain (rI0 fun i j => .bl (decide (i ≤ j))) (rI0 fun i j => .bl (decide (i < j))) (tVar 4) (tOp (rIxT K) (tVar 5) (tC (.int 0))) (tOp (rI0 fun i j => .int (i + j)) (tVar 4) (tVar 2))) (tt := tYes) (vs := [5])
      (fun _ => true) (fun y => V.bl (decide (t + kk * n ≤ y.1.time) && decide (y.1.time < t + kk * n + n))) (evp_events rfl (hR.mono e1) g) (by omega) (fun _ => rfl) fun tz z H' e hz ht => ⟨et_yes, fun _ => ?_⟩
    · rw [filter_yes] at hv
      refine s_ret (ev_any (bs := (evR l).map fun y => decide (t + kk * n ≤ y.1.time) && decide (y.1.time < t + kk * n + n)) (by rw [List.map_map]; exact hv)) fun H2 e2 => k _ _ (e1.trans e2) ?_
      unfold activeR
      rw [List.any_map]
      rfl
    · have hz0 : Ev (tOp (rIxT K) (tVar 5) (tC (.int 0))) ((wipe [some (.ref a), some (.int (t : Int)), some (.int (n : Int)), some (.int (kk : Int)), some (.int ((t + kk * n : Nat) : Int)), none] [5]).set 5 (some (.ref tz))) H' (.int (z.1.time : Int)) := ev_ix (j := 0) (ev_var rfl) ht rfl
      refine ev_is (ev_chain (ev_var rfl) hz0 rv_I0 (fun _ => ev_op (ev_var rfl) (ev_var rfl) rv_I0) (fun _ => rv_I0)) ?_
      rw [leI, ← Int.natCast_add, ltI]
theorem ev_active {σ : L2.St} {H : Hp} {i j m o : Nat} {a : Addr} {l : List Row} {t n k : Nat} (hi : σ[i]? = some (some (.ref a))) (hj : σ[j]? = some (some (.int (t : Int)))) (hm : σ[m]? = some (some (.int (n : Int)))) (ho : σ[o]? = some (some (.int (k : Int)))) (h : RowsL K H a l) (g : l.length ≤ 60) (hk : k ≤ 1000) :
    Ev (tCall (spActive K) [] E0 (tCons (tVar i) (tCons (tVar j) (tCons (tVar m) (tCons (tVar o) tNil))))) σ H (.bl (activeR l t n k)) :=
  ev_callV (ea_cons (ev_var hi) (ea_cons (ev_var hj) (ea_cons (ev_var hm) (ea_cons (ev_var ho) ea_nil)))) fun H1 e1 Q q => ⟨a, l, t, n, k, rfl, h.mono e1, g, hk, q⟩
end
end Late

/-! D6: sessions and values. -/
namespace Late
open PySem PySem.Spec PyProof.Rows L2 Evl
open Kex3 (Record Content Store effectiveAll Metric)
section
variable {P : Program} {w : World} {K : PySem.W.Frag} {mg : Str → Option Value} {base : Heap} {A : Adr}
/-! ### session_sizes -/
abbrev s_session_sizes : Stmt := top 28
theorem sc_session_sizes : FnScope ["rows", "gap", "found", "last", "row"] ["rows", "gap"] (defScope s_session_sizes) := ⟨rfl, rfl, rfl, by decide +kernel, rfl, by decide +kernel, by decide +kernel⟩
def spSizes (K : PySem.W.Frag) : Sp := fun vs H Q _ => ∃ a l g, vs = [.ref a, .int ((g : Nat) : Int)] ∧ RowsL K H a l ∧ l.length ≤ 60 ∧ RetP (ResL (natI (sizesR l g))) H Q
theorem natI_snoc (l : List Nat) (c : Nat) : natI (l ++ [c]) = natI l ++ [.int (c : Int)] := by
  unfold natI
  rw [List.map_append]
  rfl
theorem natI_len (l : List Nat) : (natI l).length = l.length := by
  unfold natI
  rw [List.length_map]
theorem set_last {α : Type} (l : List α) (x y : α) : (l ++ [x]).set l.length y = l ++ [y] := by
  rw [List.set_append_right _ _ (Nat.le_refl _), Nat.sub_self]
  rfl
theorem ixN_last (n : Nat) : ixN (n + 1) (-1) = some n := by
  unfold ixN
  rw [if_neg (by omega), if_pos (by omega)]
  congr 1
  omega
/-- xs[-1] += 1 -/
theorem s_inc {σ : L2.St} {H : Hp} {D : Ends} {i : Nat} {p : Addr} {pre : List Nat} {c : Nat} (hi : σ[i]? = some (some (.ref p))) (h : H p = some (.lst (natI (pre ++ [c])))) (q : D.nx σ (upd H p (.lst (natI (pre ++ [c + 1]))))) :
    tAugS (tVar i) (tUn (rU fun i => .int (-i)) (tC (.int 1))) (tC (.int 1)) (rIxL K) (ipI fun i j => i + j) rSetL D σ H := by
  refine ⟨_, hi, 1, rfl, p, _, _, .int (c : Int), rfl, rfl, sq_of h, ?_, (c : Int), 1, rfl, rfl, p, _, _, pre.length, rfl, rfl, h, ?_, ?_⟩
  · rw [natI_snoc]
    exact atI_last _ _
  · rw [natI_snoc, List.length_append, natI_len]
    exact ixN_last _
  · have e : (natI (pre ++ [c])).set pre.length (.int ((c : Int) + 1)) = natI (pre ++ [c + 1]) := by
      rw [natI_snoc, natI_snoc, ← natI_len pre, set_last]
      rfl
    rw [e]
    exact q
theorem sizes_len (gap : Nat) : ∀ (ts : List Nat), (sizesOf gap ts).1.length ≤ ts.length := by
  intro ts
  suffices h : ∀ (ts : List Nat) (z : List Nat × Nat), (ts.foldl (sizeStep gap) z).1.length ≤ z.1.length + ts.length by
    have := h ts ([], 0)
    simpa [sizesOf] using this
  intro ts
  induction ts with
  | nil => intro z; simp
  | cons t ts ih =>
    intro z
    have h1 := ih (sizeStep gap z t)
    have hb : ∀ l : List Nat, (bump l).length = l.length := by
      intro l
      induction l with
      | nil => rfl
      | cons x l ih2 =>
        cases l with
        | nil => rfl
        | cons y r =>
          show (x :: bump (y :: r)).length = _
          rw [List.length_cons, ih2]
          rfl
    have h2 : (sizeStep gap z t).1.length ≤ z.1.length + 1 := by
      unfold sizeStep
      dsimp only
      rw [hb]
      split
      · simp
      · omega
    rw [List.foldl_cons, List.length_cons]
    omega
theorem sizesOf_snoc (gap : Nat) (ts : List Nat) (t : Nat) : sizesOf gap (ts ++ [t]) = sizeStep gap (sizesOf gap ts) t := by
  unfold sizesOf
  rw [List.foldl_append]
  rfl
theorem ok_session_sizes (T : Txt K w mg A) (F : FunH K mg "session_sizes" s_session_sizes ["rows", "gap"]) : Has P w K mg base 1 "session_sizes" (spSizes K) := by
  refine F.ok sc_session_sizes (fun vs H Q E h => ?_) (fun f cdv Ar outer s H vs Q E hr h => ⟨_, (pss_cons (ps_set (i := 2) sc_session_sizes.nd rfl (by first | exact Or.inl rfl | exact Or.inr rfl) (pe_lst pa_nil))   (pss_cons (ps_set (i := 3) sc_session_sizes.nd rfl (by first | exact Or.inl rfl | exact Or.inr rfl) pe_int)   (pss_cons (ps_for PassesOwn.never rfl (pi_list (pv 0)) (pg_name (i := 4) sc_session_sizes.nd rfl (by first | exact Or.inl rfl | exact Or.inr rfl)) (pss_cons (ps_if (PW.pt (pw_or (pt_cmpR op_eq (pe_callB call_len_seq (by rfl) T.n_len PySem.boot_len (pa_cons (pv 2) pa_nil)) pe_int (nomark _)) (pw_or1 (pt_cmpR op_gt (pe_ix ix_tup (pv 4) pe_int (fun _ _ => rfl)) (pe_op op_add (pv 3) (pv 1)) (nomark _))))) (pss_one (ps_expr (pe_bm PySem.F.plainAttrs_list PySem.F.slot_list_append PySem.F.type_list_append mt_append (pv 2) (pa_cons pe_int pa_nil)))) pss_nil)   (pss_cons (ps_augS (pv 2) (pe_un un_neg pe_int) get_list pe_int ip_add set_list)   (pss_one (ps_set (i := 3) sc_session_sizes.nd rfl (by first | exact Or.inl rfl | exact Or.inr rfl) (pe_ix ix_tup (pv 4) pe_int (fun _ _ => rfl)))))))   (pss_one (ps_ret (pv 2)))))), ?_⟩)
  · obtain ⟨a, l, g, rfl, _⟩ := h
    rfl
  · obtain ⟨a, l, gap, rfl, ⟨tl, h1, h2, h3⟩, hl, k⟩ := h
    refine q_asgL (xs := []) (el_lst ea_nil (by simp)) fun p H1 np e1 hp => ?_
    refine q_asg ev_c fun H2 e2 => ?_
    have e12 := e1.trans e2
    refine ⟨_, rfl, a, rfl, ⟨_, ex_l e12 h2⟩, for_listN (fun i σ' H' => ∃ x, σ' = [some (.ref a), some (.int (gap : Int)), some (.ref p), some (.int ((sizesOf gap ((l.take i).map (·.1.time))).2 : Int)), x] ∧ Ex H H' ∧ H' p = some (.lst (natI (sizesOf gap ((l.take i).map (·.1.time))).1)))
      ⟨_, rfl, e12, e2 _ _ hp⟩ (fun i σ' H' _ ⟨_, _, e, _⟩ => ex_l e h2) ?_ ?_⟩
    · rintro i x σ' H' hx ⟨y, rfl, e3, hs⟩
      obtain ⟨z, hz, rfl⟩ := ref_at hx
      have hz2 := snd_at h1 hz
      have hstep : sizesOf gap ((l.take (i + 1)).map (·.1.time)) = sizeStep gap (sizesOf gap ((l.take i).map (·.1.time))) z.2.1.time := by
        rw [take_succ hz2, List.map_append]
        exact sizesOf_snoc _ _ _
      have hlen := sizes_len gap ((l.take i).map (·.1.time))
      rw [List.length_map] at hlen
      have hlen2 := take_len i l
      generalize hst : sizesOf gap ((l.take i).map (·.1.time)) = st at hs hstep hlen ⊢
      obtain ⟨sz, last⟩ := st
      have hlen : sz.length ≤ (l.take i).length := hlen
      have fin : ∀ (H4 : Hp) (pre : List Nat) (c : Nat), Ex H H4 → H4 p = some (.lst (natI (pre ++ [c]))) → (sizeStep gap (sz, last) z.2.1.time).1 = pre ++ [c + 1] →
          tSeq (tAugS (tVar 2) (tUn (rU fun i => .int (-i)) (tC (.int 1))) (tC (.int 1)) (rIxL K) (ipI fun i j => i + j) rSetL) (tAsg (tOp (rIxT K) (tVar 4) (tC (.int 0))) (gName 3))
            { nx := fun σ' H' => ∃ x, σ' = [some (.ref a), some (.int (gap : Int)), some (.ref p), some (.int ((sizesOf gap ((l.take (i + 1)).map (·.1.time))).2 : Int)), x] ∧ Ex H H' ∧ H' p = some (.lst (natI (sizesOf gap ((l.take (i + 1)).map (·.1.time))).1)), rt := Q,
              bk := fun σ H => tRet (tVar 2) { nx := fun x H' => Q V.non H', rt := Q } σ H, ct := fun σ' H' => ∃ x, σ' = [some (.ref a), some (.int (gap : Int)), some (.ref p), some (.int ((sizesOf gap ((l.take (i + 1)).map (·.1.time))).2 : Int)), x] ∧ Ex H H' ∧ H' p = some (.lst (natI (sizesOf gap ((l.take (i + 1)).map (·.1.time))).1)) }
            [some (.ref a), some (.int (gap : Int)), some (.ref p), some (.int (last : Int)), some (.ref z.1)] H4 := fun H4 pre c e4 h4 hsz => by
        refine s_inc (K := K) rfl h4 ?_
        have e5 : Ex H (upd H4 p (.lst (natI (pre ++ [c + 1])))) := Ex.mut e4 np
        refine s_asg (ev_ix (j := 0) (ev_var rfl) (ex_t e5 (h3 z (mem_of_at hz))) rfl) fun H6 e6 => ⟨some (.ref z.1), ?_, e5.trans e6, ?_⟩
        · rw [hstep]
          rfl
        · rw [hstep, hsz]
          exact e6 _ _ upd_same
      have ht := ex_t e3 (h3 z (mem_of_at hz))
      refine q_when (b := decide (sz = []) || decide (last + gap < z.2.1.time)) (et_or (et_is (et_test (ev_op (ev_len (ev_var rfl) (sq_of hs)) ev_c (rv_eq rfl))) ?_) fun _ => et_is (et_test (ev_op (ev_ix (j := 0) (ev_var rfl) ht rfl) (ev_op (ev_var rfl) (ev_var rfl) rv_I0) rv_I0)) ?_) (fun hb H4 e4 => ?_) (fun hb H4 e4 => ?_)
      · rw [natI_len]
        show decide (V.int (sz.length : Int) = V.int ((0 : Nat) : Int)) = _
        rw [eqb]
        cases sz <;> simp
      · exact dec_is (by omega)
      · refine s_app (e4 _ _ hs) (ev_var rfl) ev_c (by rw [natI_len]; show sz.length < 100000; omega) fun H5 e5 => ?_
        have e6 : Ex H (upd H5 p (.lst (natI sz ++ [.int 0]))) := Ex.mut ((e3.trans e4).trans e5) np
        refine fin _ sz 0 e6 (by rw [upd_same, natI_snoc]; rfl) ?_
        unfold sizeStep
        dsimp only
        rw [if_pos (by simpa using hb), bump_snoc]
      · have hnb : ¬ (sz = [] ∨ last + gap < z.2.1.time) := by
          intro q
          have : (decide (sz = []) || decide (last + gap < z.2.1.time)) = true := by simpa using q
          rw [this] at hb
          cases hb
        rcases List.eq_nil_or_concat sz with e | ⟨pre, c, e⟩
        · exact absurd (.inl e) hnb
        · rw [List.concat_eq_append] at e
          refine fin H4 pre c (e3.trans e4) ?_ ?_
          · have := e4 _ _ hs
            rw [← e]
            exact this
          · unfold sizeStep
            dsimp only
            rw [if_neg hnb, e, bump_snoc]
    · rintro σ' H' ⟨y, rfl, e3, hs⟩
      rw [refs_len, snd_len h1, List.take_length] at hs
      refine s_ret (σ := [some (.ref a), some (.int (gap : Int)), some (.ref p), _, y]) (ev_var rfl) fun H4 e4 => k _ _ (e3.trans e4) ⟨p, rfl, e4 _ _ hs⟩
theorem evp_sizes {σ : L2.St} {H : Hp} {te0 tb : TE} {l : List Row} {gap : Nat} (h : EvP te0 σ H (ResRows K l)) (hb : ∀ H1, Ex H H1 → Ev tb σ H1 (.int (gap : Int))) (g : l.length ≤ 60) : EvP (tCall (spSizes K) [] E0 (tCons te0 (tCons tb tNil))) σ H (ResL (natI (sizesR l gap))) := fun H1 e1 Q q =>
  h H1 e1 _ fun v H2 e2 ⟨p, ev, hr⟩ => (hb H2 (e1.trans e2)) H2 (Ex.refl _) _ fun H3 e3 => ⟨p, l, gap, by rw [ev]; rfl, hr.mono e3, g, fun v H4 e4 r => q v H4 ((e2.trans e3).trans e4) r⟩
end
end Late

/-! D7: the value of a metric. -/
namespace Late
open PySem PySem.Spec PyProof.Rows L2 Evl
open Kex3 (Record Content Store effectiveAll Metric)
section
variable {P : Program} {w : World} {K : PySem.W.Frag} {mg : Str → Option Value} {base : Heap} {A : Adr}
abbrev s_metric_value : Stmt := top 23
theorem sc_metric_value : FnScope ["rows", "start", "metric", "form", "name", "cap", "window", "some", "number", "row"] ["rows", "start", "metric"] (defScope s_metric_value) := ⟨rfl, rfl, rfl, by decide +kernel, rfl, by decide +kernel, by decide +kernel⟩
def metI (m : Metric) : List V := [.int (m.type : Int), .int (m.event : Int), .int (m.cap : Int), .int (m.window : Int)]
def spMetric (K : PySem.W.Frag) : Sp := fun vs H Q _ => ∃ a l t pm m, vs = [.ref a, .int ((t : Nat) : Int), .ref pm] ∧ RowsL K H a l ∧ l.length ≤ 60 ∧ SqL K H pm (metI m) ∧ RetP (fun v _ => v = .int (metricR l t m : Int)) H Q
theorem gtI (a b : Nat) : decide ((b : Int) < (a : Int)) = decide (b < a) := dec_is (by omega)
theorem min_nat (n c : Nat) : (if (c : Int) < (n : Int) then (c : Int) else (n : Int)) = ((min n c : Nat) : Int) := by
  split <;> omega
theorem sum_natI : ∀ l : List Nat, (l.map fun n : Nat => (n : Int)).sum = (l.sum : Int)
  | [] => rfl
  | x :: l => by
    rw [List.map_cons, List.sum_cons, List.sum_cons, sum_natI l]
    omega
theorem ev_min {σ : L2.St} {H : Hp} {ta tb : TE} {i j : Int} (ha : Ev ta σ H (.int i)) (hb : Ev tb σ H (.int j)) : Ev (tCB (fun xs H Q => ∃ i j, xs = [.int i, .int j] ∧ Q (.int (if j < i then j else i)) H) (tCons ta (tCons tb tNil))) σ H (.int (if j < i then j else i)) := fun H1 e Q q =>
  ha H1 e _ fun H2 e2 => hb H2 (e.trans e2) _ fun H3 e3 => ⟨i, j, rfl, q H3 (e2.trans e3)⟩
theorem ok_metric_value (T : Txt K w mg A) (F : FunH K mg "metric_value" s_metric_value ["rows", "start", "metric"]) (G_event_rows : Has P w K mg base 1 "event_rows" (spEvents K)) : Has P w K mg base 2 "metric_value" (spMetric K) := by
  refine F.ok sc_metric_value (fun vs H Q E h => ?_) (fun f cdv Ar outer s H vs Q E hr h => ⟨_, (pss_cons (ps_asg (pv 2) (pg_unl (by rfl) (pgs_cons (pg_name (i := 3) sc_metric_value.nd rfl (by first | exact Or.inl rfl | exact Or.inr rfl)) (pgs_cons (pg_name (i := 4) sc_metric_value.nd rfl (by first | exact Or.inl rfl | exact Or.inr rfl)) (pgs_cons (pg_name (i := 5) sc_metric_value.nd rfl (by first | exact Or.inl rfl | exact Or.inr rfl)) (pgs_cons (pg_name (i := 6) sc_metric_value.nd rfl (by first | exact Or.inl rfl | exact Or.inr rfl)) pgs_nil))))))   (pss_cons (ps_setLc (i := 7) (own := [("row", 9)]) (g := (gName 9)) (tt := (tAnd (tTest (tOp rEq (tOp (rIxT K) (tVar 9) (tC (.int 3))) (tVar 4))) (tTest (tChain (rI0 fun i j => .bl (decide (i ≤ j))) (rI0 fun i j => .bl (decide (i < j))) (tVar 1) (tOp (rIxT K) (tVar 9) (tC (.int 0))) (tOp (rI0 fun i j => .int (i + j)) (tVar 1) (tVar 6)))))) (te := (tVar 9)) (by rfl) sc_metric_value.nd rfl rfl (sw_true rfl rfl rfl (by decide +kernel)) (pi_list (pe_callH G_event_rows (hr.mono (by decide)) (by rfl) (pa_cons (pv 0) pa_nil))) (blkOk_by (own := [("row", 9)]) (N := ["rows", "start", "metric", "form", "name", "cap", "window", "some", "number", "row"]) (sc := defScope s_metric_value) (by decide +kernel)) (fun _ _ _ _ _ => by exact (pg_name (i := 9) sc_metric_value.nd rfl (by first | exact Or.inl rfl | exact Or.inr rfl))) (fun _ _ _ _ _ => by exact pts_one (PW.pt (pw_and (pt_cmpR op_eq (pe_ix ix_tup (pv 9) pe_int (fun _ _ => rfl)) (pv 4) (nomark _)) (pw_and1 (pt_chain op_le op_lt (pv 1) (pe_ix ix_tup (pv 9) pe_int (fun _ _ => rfl)) (pe_op op_add (pv 1) (pv 6))))))) (fun _ _ _ _ _ => by exact (pv 9)))   (pss_cons (ps_if (pt_cmpR op_eq (pv 3) pe_int (nomark _)) (pss_one (ps_ret (pe_ifExp (pt_cmpR op_gt (pe_callB call_len_seq (by rfl) T.n_len PySem.boot_len (pa_cons (pv 7) pa_nil)) pe_int (nomark _)) pe_int pe_int))) pss_nil)   (pss_cons (ps_set (i := 8) sc_metric_value.nd rfl (by first | exact Or.inl rfl | exact Or.inr rfl) (pe_ifExp (pt_cmpR op_eq (pv 3) pe_int (nomark _)) (pe_callB call_len_seq (by rfl) T.n_len PySem.boot_len (pa_cons (pv 7) pa_nil)) (pe_callB (cr_sum rfl) (by rfl) T.n_sum (by decide +kernel) (pa_cons (pe_lc (own := [("row", 9)]) (g := (gName 9)) (tt := tYes) (te := (tOp (rIxT K) (tVar 9) (tC (.int 4)))) (by rfl) sc_metric_value.nd (pi_list (pv 7)) (blkOk_by (own := [("row", 9)]) (N := ["rows", "start", "metric", "form", "name", "cap", "window", "some", "number", "row"]) (sc := defScope s_metric_value) (by decide +kernel)) (fun _ _ _ _ _ => by exact (pg_name (i := 9) sc_metric_value.nd rfl (by first | exact Or.inl rfl | exact Or.inr rfl))) (fun _ _ _ _ _ => pts_nil) (fun _ _ _ _ _ => by exact (pe_ix ix_tup (pv 9) pe_int (fun _ _ => rfl)))) pa_nil))))   (pss_one (ps_ret (pe_ifExp (pt_cmpR op_gt (pv 5) pe_int (nomark _)) (pe_callB (call_min2 rfl) (by rfl) T.n_min (by decide +kernel) (pa_cons (pv 8) (pa_cons (pv 5) pa_nil))) (pv 8)))))))), ?_⟩)
  · obtain ⟨a, l, t, pm, m, rfl, _⟩ := h
    rfl
  · obtain ⟨a, l, t, pm, m, rfl, hR, g, hM, k⟩ := h
    refine ⟨_, rfl, pm, metI m, rfl, hM, rfl, _, _, rfl, _, _, rfl, _, _, rfl, _, _, rfl, rfl, ?_⟩
    have hlen := evR_len l
    have hp := pick_len l t m.event m.window
    let σ0 : L2.St := [some (.ref a), some (.int (t : Int)), some (.ref pm), some (.int (m.type : Int)), some (.int (m.event : Int)), some (.int (m.cap : Int)), some (.int (m.window : Int)), none, none, none]
    refine q_asgP (σ := σ0) (evp_pick (K := K) (l := evR l) (fun z => z.1.first == m.event && (decide (t ≤ z.1.time) && decide (z.1.time < t + m.window))) (evp_events rfl hR g) (by omega) (fun _ => rfl) (fun _ => rfl) fun tz z H' e hz ht => ?_) fun v H1 e1 ⟨ps, ev, tl, h1, h2, h3⟩ => ?_
    · refine et_is (et_and (et_test (ev_op (ev_ix (j := 3) (ev_var rfl) ht rfl) (ev_var rfl) (rv_eq rfl))) fun _ => et_test (ev_chain (ev_var rfl) (ev_ix (j := 0) (ev_var rfl) ht rfl) rv_I0 (fun _ => ev_op (ev_var rfl) (ev_var rfl) rv_I0) fun _ => rv_I0)) ?_
      rw [eqb, leI, ← Int.natCast_add, ltI]
    · subst ev
      have h1 : tl.map (·.2) = pick l t m.event m.window := h1
      have hl2 : (refs tl).length = (pick l t m.event m.window).length := by rw [refs_len, snd_len h1]
      let σ1 : L2.St := [some (.ref a), some (.int (t : Int)), some (.ref pm), some (.int (m.type : Int)), some (.int (m.event : Int)), some (.int (m.cap : Int)), some (.int (m.window : Int)), some (.ref ps), none, none]
      have hn : ∀ H', Ex H1 H' → Ev (tCB (rLenS K) (tCons (tVar 7) tNil)) σ1 H' (.int ((pick l t m.event m.window).length : Int)) := fun H' e => by
        rw [← hl2]
        exact ev_len (ev_var rfl) (ex_l e h2)
      refine q_when (σ := σ1) (b := (m.type == 0)) (et_is (et_test (ev_op (ev_var rfl) ev_c (rv_eq rfl))) (eqb _ 0)) (fun hb H2 e2 => ?_) (fun hb H2 e2 => ?_)
      · have h0 : m.type = 0 := by simpa using hb
        refine s_ret (v := .int (metricR l t m : Int)) ?_ fun H3 e3 => k _ _ ((e1.trans e2).trans e3) rfl
        have hm : metricR l t m = if 0 < (pick l t m.event m.window).length then 1 else 0 := by
          unfold metricR
          dsimp only
          rw [if_pos h0]
        refine ev_if (b := decide (0 < (pick l t m.event m.window).length)) (et_is (et_test (ev_op (hn H2 e2) ev_c rv_I0)) (gtI _ 0)) (fun q => ?_) (fun q => ?_)
        · rw [hm, if_pos (of_decide_eq_true q)]
          exact ev_c
        · rw [hm, if_neg (of_decide_eq_false q)]
          exact ev_c
      · have h0 : m.type ≠ 0 := by simpa using hb
        refine q_asg (v := .int ((if m.type = 1 then (pick l t m.event m.window).length else ((pick l t m.event m.window).map (·.1.second)).sum : Nat) : Int)) (ev_if (b := (m.type == 1)) (et_is (et_test (ev_op (ev_var rfl) ev_c (rv_eq rfl))) (eqb _ 1)) (fun q => ?_) (fun q => ?_)) fun H3 e3 => ?_
        · rw [if_pos (by simpa using q)]
          exact hn H2 e2
        · rw [if_neg (by simpa using q), ← sum_natI, List.map_map]
          refine ev_sum ?_
          rw [List.map_map]
          have hv := evp_vals (K := K) (σ := σ1) (H := H2) (j := 9) (te0 := tVar 7) (te := tOp (rIxT K) (tVar 9) (tC (.int 4))) (tt := tYes) (vs := [9]) (l := pick l t m.event m.window) (fun _ => true) (fun z => V.int (z.1.second : Int))
            (evp_rowvar rfl ⟨tl, h1, ex_l e2 h2, h3.mono e2⟩) (by omega) (fun _ => rfl) fun tz z H' e hz ht => ⟨et_yes, fun _ => ev_ix (j := 4) (ev_var rfl) ht rfl⟩
          rw [filter_yes] at hv
          exact hv
        · refine s_ret (v := .int (metricR l t m : Int)) ?_ fun H4 e4 => k _ _ (((e1.trans e2).trans e3).trans e4) rfl
          have hm : metricR l t m = if 0 < m.cap then min (if m.type = 1 then (pick l t m.event m.window).length else ((pick l t m.event m.window).map (·.1.second)).sum) m.cap else (if m.type = 1 then (pick l t m.event m.window).length else ((pick l t m.event m.window).map (·.1.second)).sum) := by
            unfold metricR
            dsimp only
            rw [if_neg h0]
          rw [hm]
          generalize (if m.type = 1 then (pick l t m.event m.window).length else ((pick l t m.event m.window).map (·.1.second)).sum) = n
          refine ev_if (b := decide (0 < m.cap)) (et_is (et_test (ev_op (ev_var rfl) ev_c rv_I0)) (gtI _ 0)) (fun q => ?_) (fun q => ?_)
          · rw [if_pos (of_decide_eq_true q)]
            exact ev_is (ev_min (ev_var rfl) (ev_var rfl)) (congrArg V.int (min_nat n m.cap))
          · rw [if_neg (of_decide_eq_false q)]
            exact ev_var rfl
end
end Late

/-! D8: the rows by their units. -/
namespace Late
open PySem PySem.Spec PyProof.Rows L2 Evl
open Kex3 (Record Content Store effectiveAll Metric)
section
variable {P : Program} {w : World} {K : PySem.W.Frag} {mg : Str → Option Value} {base : Heap} {A : Adr}
abbrev s_rows_by_unit : Stmt := top 20
theorem sc_rows_by_unit : FnScope ["ledger", "found", "row"] ["ledger"] (defScope s_rows_by_unit) := ⟨rfl, rfl, rfl, by decide +kernel, rfl, by decide +kernel, by decide +kernel⟩
def arf : Addr → V := fun a => .ref a
/-- units to lists of rows -/
def ByU (K : PySem.W.Frag) (H : Hp) (l : List Row) (d : List (Nat × Addr)) : Prop := (d.map (·.1)).Nodup ∧ (∀ u, u ∈ d.map (·.1) ↔ ∃ z ∈ l, z.1.unit = u) ∧ d.length ≤ l.length ∧ ∀ x ∈ d, RowsL K H x.2 (ofU l x.1)
def ResBy (K : PySem.W.Frag) (l : List Row) : V → Hp → Prop := fun v H => ∃ p d, v = .ref p ∧ H p = some (.dK (encD arf d)) ∧ ByU K H l d
theorem ByU.mono {H H' : Hp} {l : List Row} {d : List (Nat × Addr)} (e : Ex H H') (h : ByU K H l d) : ByU K H' l d := ⟨h.1, h.2.1, h.2.2.1, fun x hx => (h.2.2.2 x hx).mono e⟩
def spBy (K : PySem.W.Frag) (A : Adr) : Sp := fun vs H Q _ => ∃ a ae s, vs = [.ref a] ∧ LedAt A H a ae s ∧ Good s ∧ RetP (ResBy K (effectiveAll s)) H Q
/-- behind some rows: the dict's lists, each with the rows of its unit -/
structure ByW (H0 : Hp) (p : Addr) (tl : List (Addr × Row)) (H : Hp) (d : List (Nat × Addr)) : Prop where
  ex : Ex H0 H
  at_ : H p = some (.dK (encD arf d))
  nd : (d.map (·.1)).Nodup
  nd2 : (d.map (·.2)).Nodup
  new : ∀ x ∈ d, H0 x.2 = none ∧ x.2 ≠ p
  lists : ∀ x ∈ d, H x.2 = some (.lst (refs (tl.filter fun y => y.2.1.unit == x.1)))
theorem nd_inj {α : Type} : ∀ {d : List (α × Addr)}, (d.map (·.2)).Nodup → ∀ x ∈ d, ∀ y ∈ d, x.2 = y.2 → x = y
  | [], _, x, hx, _, _, _ => absurd hx (by simp)
  | a :: r, h, x, hx, y, hy, e => by
    rw [List.map_cons, List.nodup_cons] at h
    rcases List.mem_cons.mp hx with e1 | m1
    · rcases List.mem_cons.mp hy with e2 | m2
      · rw [e1, e2]
      · exact absurd (List.mem_map.mpr ⟨y, m2, by rw [← e, e1]⟩) h.1
    · rcases List.mem_cons.mp hy with e2 | m2
      · exact absurd (List.mem_map.mpr ⟨x, m1, by rw [e, e2]⟩) h.1
      · exact nd_inj h.2 x m1 y m2 e
theorem refs_snoc {α : Type} (l : List (Addr × α)) (x : Addr × α) : refs (l ++ [x]) = refs l ++ [.ref x.1] := by
  unfold refs
  rw [List.map_append]
  rfl
/-- the heap without one object -/
def lessAt (H : Hp) (p : Addr) : Hp := fun b => if b = p then none else H b
theorem lessAt_at {H : Hp} {p : Addr} : lessAt H p p = none := if_pos rfl
theorem lessAt_ne {H : Hp} {p b : Addr} (h : b ≠ p) : lessAt H p b = H b := if_neg h
theorem lessAt_ex {H : Hp} {p : Addr} : Ex (lessAt H p) H := fun b o z => by
  by_cases c : b = p
  · rw [c, lessAt_at] at z
    cases z
  · rw [lessAt_ne c] at z
    exact z
theorem ok_rows_by_unit (T : Txt K w mg A) (F : FunH K mg "rows_by_unit" s_rows_by_unit ["ledger"]) (G_effective_rows : Has P w K mg base 4 "effective_rows" (spRows K A)) : Has P w K mg base 5 "rows_by_unit" (spBy K A) := by
  refine F.ok sc_rows_by_unit (fun vs H Q E h => ?_) (fun f cdv Ar outer s H vs Q E hr h => ⟨_, by have hu := hu_of hr; exact (pss_cons (ps_set (i := 1) sc_rows_by_unit.nd rfl (by first | exact Or.inl rfl | exact Or.inr rfl) pe_dnewK)   (pss_cons (ps_for PassesOwn.never rfl (pi_list (pe_callH G_effective_rows (hr.mono (by decide)) (by rfl) (pa_cons (pv 0) pa_nil))) (pg_name (i := 2) sc_rows_by_unit.nd rfl (by first | exact Or.inl rfl | exact Or.inr rfl)) (pss_cons (ps_if (pt_cmp (pc_dnotin hu (pe_ix ix_tup (pv 2) pe_int (fun _ _ => rfl)) (pv 1))) (pss_one (ps_dput hu (pv 1) (pe_ix ix_tup (pv 2) pe_int (fun _ _ => rfl)) (pe_lst pa_nil) rfl)) pss_nil)   (pss_one (ps_expr (pe_bm PySem.F.plainAttrs_list PySem.F.slot_list_append PySem.F.type_list_append mt_append (pe_dget hu (pv 1) (pe_ix ix_tup (pv 2) pe_int (fun _ _ => rfl)) (fun _ _ => rfl)) (pa_cons (pv 2) pa_nil))))))   (pss_one (ps_ret (pv 1))))), ?_⟩)
  · obtain ⟨a, ae, s, rfl, _⟩ := h
    rfl
  · obtain ⟨a, ae, s, rfl, hL, g, k⟩ := h
    refine q_dnew fun p hp => ?_
    have e0 : Ex H (upd H p (.dK [])) := Ex.new hp
    refine evp_rows rfl (hL.mono e0) g _ (Ex.refl _) _ fun v H2 e2 ⟨q, ev, tl, h1, h2, h3⟩ => ?_
    subst ev
    have d2 : H2 p = some (.dK []) := e2 _ _ upd_same
    have hl := raw_len g
    generalize effectiveAll s = l at h1 hl k
    -- what stood behind the rows, but the dict
    have base : Ex (lessAt H2 p) H2 := lessAt_ex
    have Bp : lessAt H2 p p = none := lessAt_at
    have Bq : SqL K (lessAt H2 p) q (refs tl) := by
      rcases h2 with (c | ⟨o, c⟩) | c
      · exact .inl (.inl ((lessAt_ne fun z => by rw [z, d2] at c; cases c).trans c))
      · exact .inl (.inr ⟨o, (lessAt_ne fun z => by rw [z, d2] at c; cases c).trans c⟩)
      · exact .inr c
    have Bt : RowsAt K (lessAt H2 p) tl := fun x hx => by
      rcases h3 x hx with (c | ⟨o, c⟩) | c
      · exact .inl (.inl ((lessAt_ne fun z => by rw [z, d2] at c; cases c).trans c))
      · exact .inl (.inr ⟨o, (lessAt_ne fun z => by rw [z, d2] at c; cases c).trans c⟩)
      · exact .inr c
    have HB : Ex H (lessAt H2 p) := fun b o z => (lessAt_ne fun c => by rw [c, hp] at z; cases z).trans ((e0.trans e2) b o z)
    generalize lessAt H2 p = B at base Bp Bq Bt HB
    refine ⟨q, rfl, ⟨_, h2⟩, for_listN (fun i σ' H' => ∃ x d, σ' = [some (.ref a), some (.ref p), x] ∧ ByW B p (tl.take i) H' d ∧ (∀ u, u ∈ d.map (·.1) ↔ ∃ z ∈ l.take i, z.1.unit = u) ∧ d.length ≤ i)
      ⟨_, [], rfl, ⟨base, d2, List.nodup_nil, List.nodup_nil, fun x hx => absurd hx (by simp), fun x hx => absurd hx (by simp)⟩, fun u => by simp, Nat.zero_le _⟩ (fun i σ' H' _ ⟨_, _, _, w', _⟩ => ex_l w'.ex Bq) ?_ ?_⟩
    · rintro i x σ' H' hx ⟨y, d, rfl, W, hkeys, hdl⟩
      obtain ⟨z, hz, rfl⟩ := ref_at hx
      have hz2 := snd_at h1 hz
      have hil : i < tl.length := (List.getElem?_eq_some_iff.mp hz).1
      rw [snd_len h1] at hil
      have ht : ∀ H', Ex B H' → SqT K H' z.1 ((rowI z.2).map V.int) := fun H' e => ex_t e (Bt z (mem_of_at hz))
      have hu1 : ∀ H', Ex B H' → Ev (tOp (rIxT K) (tVar 2) (tC (.int 1))) [some (.ref a), some (.ref p), some (.ref z.1)] H' (kV (natK z.2.1.unit)) := fun H' e => ev_ix (j := 1) (ev_var rfl) (ht H' e) rfl
      -- the second statement: the row goes to its unit's list
      have app : ∀ H4 d4, ByW B p (tl.take i) H4 d4 → (∃ lu, (z.2.1.unit, lu) ∈ d4) → (∀ u, u ∈ d4.map (·.1) ↔ ∃ z ∈ l.take (i + 1), z.1.unit = u) → d4.length ≤ i + 1 →
          tDrop (tBM K "list" rAppend (tDGet (tVar 1) (tOp (rIxT K) (tVar 2) (tC (.int 1)))) (tCons (tVar 2) tNil))
            { nx := fun σ' H' => ∃ x d, σ' = [some (.ref a), some (.ref p), x] ∧ ByW B p (tl.take (i + 1)) H' d ∧ (∀ u, u ∈ d.map (·.1) ↔ ∃ z ∈ l.take (i + 1), z.1.unit = u) ∧ d.length ≤ i + 1, rt := Q, bk := fun σ H => tRet (tVar 1) { nx := fun x H' => Q V.non H', rt := Q } σ H,
              ct := fun σ' H' => ∃ x d, σ' = [some (.ref a), some (.ref p), x] ∧ ByW B p (tl.take (i + 1)) H' d ∧ (∀ u, u ∈ d.map (·.1) ↔ ∃ z ∈ l.take (i + 1), z.1.unit = u) ∧ d.length ≤ i + 1 }
            [some (.ref a), some (.ref p), some (.ref z.1)] H4 := fun H4 d4 W4 hlu k4 l4 => by
        obtain ⟨lu, hm⟩ := hlu
        have hv : valV (encD arf d4) (natK z.2.1.unit) = some (.ref lu) := encD_get (mem_getN W4.nd hm)
        have hlst := W4.lists _ hm
        have hti := take_len i tl
        refine s_app hlst (ev_dget (ev_var rfl) (hu1 _ W4.ex) (.inl W4.at_) hv) (ev_var rfl) ?_ fun H5 e5 => ?_
        · rw [refs_len]
          have q1 := List.length_filter_le (fun y : Addr × Row => y.2.1.unit == z.2.1.unit) (tl.take i)
          have q2 := snd_len h1
          show (List.filter (fun y : Addr × Row => y.2.1.unit == z.2.1.unit) (tl.take i)).length < 100000
          omega
        · obtain ⟨n0, np⟩ := W4.new _ hm
          refine ⟨_, d4, rfl, ⟨Ex.mut (W4.ex.trans e5) n0, ?_, W4.nd, W4.nd2, W4.new, fun x hx => ?_⟩, k4, l4⟩
          · rw [upd_ne fun c => np c.symm]
            exact e5 _ _ W4.at_
          · rw [take_succ hz, filter_snoc]
            by_cases c : x.2 = lu
            · have ex : x = (z.2.1.unit, lu) := nd_inj W4.nd2 x hx _ hm c
              subst ex
              rw [upd_same, if_pos (by simp), refs_snoc]
            · have cu : ¬ x.1 = z.2.1.unit := fun q => by
                have g1 := mem_getN (v := x.2) W4.nd hx
                rw [q, mem_getN W4.nd hm] at g1
                exact c (Option.some.inj g1).symm
              rw [upd_ne c, if_neg (by simpa using fun q : z.2.1.unit = x.1 => cu q.symm)]
              exact e5 _ _ (W4.lists x hx)
      have keysNew : ∀ d4 : List (Nat × Addr), (∀ u, u ∈ d4.map (·.1) ↔ (u ∈ d.map (·.1) ∨ u = z.2.1.unit)) → ∀ u, u ∈ d4.map (·.1) ↔ ∃ z ∈ l.take (i + 1), z.1.unit = u := fun d4 h u => by
        rw [h, hkeys, take_succ hz2]
        constructor
        · rintro (⟨y, hy, e⟩ | e)
          · exact ⟨y, List.mem_append_left _ hy, e⟩
          · exact ⟨z.2, List.mem_append_right _ (by simp), e.symm⟩
        · rintro ⟨y, hy, e⟩
          rcases List.mem_append.mp hy with m | m
          · exact .inl ⟨y, m, e⟩
          · have : y = z.2 := by simpa using m
            exact .inr (by rw [← e, this])
      refine q_when (b := !(getN d z.2.1.unit).isSome) (et_is (et_B (ev_dnotin (ev_var rfl) (hu1 _ W.ex) (.inl W.at_))) (by rw [encD_val]; cases getN d z.2.1.unit <;> rfl)) (fun hb H3 e3 => ?_) (fun hb H3 e3 => ?_)
      · have hn : getN d z.2.1.unit = none := by
          cases q : getN d z.2.1.unit with
          | none => rfl
          | some x => rw [q] at hb; cases hb
        -- found[unit] = []
        refine (el_lst (vs := []) ea_nil (by simp)) H3 (Ex.refl _) _ fun r H4 nr e4 hr4 => ?_
        have e34 := e3.trans e4
        have at4 := e34 _ _ W.at_
        refine ⟨_, rfl, hu1 H4 (W.ex.trans e34) H4 (Ex.refl _) _ fun H5 e5 => ⟨p, _, rfl, DPut.k (e5 _ _ at4) (by rw [encD_len]; exact sz_lt (by omega)), ?_⟩⟩
        have nr0 : B r = none := fresh_back (W.ex.trans e3) nr
        have nrp : r ≠ p := fun c => by
          rw [c] at nr
          rw [e3 _ _ W.at_] at nr
          cases nr
        have hput : putK (encD arf d) (natK z.2.1.unit) (V.ref r) = encD arf (d ++ [(z.2.1.unit, r)]) := by
          rw [← put_new hn]
          exact encD_put (f := arf) d _ r
        rw [hput]
        have nin : r ∉ d.map (·.2) := fun m => by
          obtain ⟨x, hx, e⟩ := List.mem_map.mp m
          have := e3 _ _ (W.lists x hx)
          rw [e, nr] at this
          cases this
        refine app _ (d ++ [(z.2.1.unit, r)]) ⟨Ex.mut (W.ex.trans (e34.trans e5)) Bp, upd_same, ?_, ?_, fun x hx => ?_, fun x hx => ?_⟩ ⟨r, by simp⟩ (keysNew _ fun u => by simp) (by simp; omega)
        · rw [List.map_append]
          exact nodup_snoc W.nd (getN_none hn)
        · rw [List.map_append, List.nodup_append]
          refine ⟨W.nd2, by simp, ?_⟩
          intro x hx y hy e
          have : y = r := by simpa using hy
          subst this
          subst e
          exact nin hx
        · rcases List.mem_append.mp hx with m | m
          · exact W.new x m
          · have : x = (z.2.1.unit, r) := by simpa using m
            subst this
            exact ⟨nr0, nrp⟩
        · rcases List.mem_append.mp hx with m | m
          · rw [upd_ne (W.new x m).2]
            exact (e34.trans e5) _ _ (W.lists x m)
          · have : x = (z.2.1.unit, r) := by simpa using m
            subst this
            rw [upd_ne nrp]
            have hno : (tl.take i).filter (fun y => y.2.1.unit == z.2.1.unit) = [] := by
              rw [List.filter_eq_nil_iff]
              intro y hy c
              have hk : z.2.1.unit ∈ d.map (·.1) := (hkeys _).mpr ⟨y.2, by rw [← h1, ← List.map_take]; exact List.mem_map.mpr ⟨y, hy, rfl⟩, by simpa using c⟩
              exact getN_none hn hk
            show H5 r = some (.lst (refs ((tl.take i).filter fun y => y.2.1.unit == z.2.1.unit)))
            rw [hno]
            exact e5 _ _ hr4
      · obtain ⟨lu, hlu⟩ : ∃ lu, getN d z.2.1.unit = some lu := by
          cases q : getN d z.2.1.unit with
          | none => rw [q] at hb; cases hb
          | some x => exact ⟨x, rfl⟩
        refine app H3 d ⟨W.ex.trans e3, e3 _ _ W.at_, W.nd, W.nd2, W.new, fun x hx => e3 _ _ (W.lists x hx)⟩ ⟨lu, getN_mem hlu⟩ (keysNew _ fun u => ?_) (by omega)
        constructor
        · exact .inl
        · rintro (m | e)
          · exact m
          · rw [e]
            exact List.mem_map.mpr ⟨_, getN_mem hlu, rfl⟩
    · rintro σ' H' ⟨y, d, rfl, W, hkeys, hdl⟩
      rw [refs_len, snd_len h1, List.take_length] at hkeys
      rw [refs_len, snd_len h1] at hdl
      have W' : ByW B p tl H' d := by
        have := W
        rw [refs_len, List.take_length] at this
        exact this
      refine s_ret (σ := [some (.ref a), some (.ref p), y]) (ev_var rfl) fun H3 e3 => k _ _ ((HB.trans W'.ex).trans e3) ⟨p, d, rfl, e3 _ _ W'.at_, W'.nd, hkeys, hdl, fun x hx => ⟨tl.filter fun y => y.2.1.unit == x.1, ?_, sq_of (e3 _ _ (W'.lists x hx)), fun y hy => ex_t (W'.ex.trans e3) (Bt y (List.mem_filter.mp hy).1)⟩⟩
      unfold ofU
      rw [← h1]
      exact snd_filter tl fun z => z.1.unit == x.1
theorem evp_by {σ : L2.St} {H : Hp} {i : Nat} {a ae : Addr} {s : Store} (hv : σ[i]? = some (some (.ref a))) (h : LedAt A H a ae s) (g : Good s) : EvP (tCall (spBy K A) [] E0 (tCons (tVar i) tNil)) σ H (ResBy K (effectiveAll s)) :=
  evp_call (ea_cons (ev_var hv) ea_nil) fun H1 e1 Q k => ⟨a, ae, s, rfl, h.mono e1, g, k⟩
end
end Late

/-! D9: who stands how in an experiment. -/
namespace Late
open PySem PySem.Spec PyProof.Rows L2 Evl
open Kex3 (Record Content Store effectiveAll Metric)
/-! ### plain facts -/
theorem stand_nd (l : List Row) (x : Nat) (us : List Nat) (h : us.Nodup) : ((standOf l x us).map (·.1)).Nodup := by
  have h2 : (us.map fun u => (u, partR (ofU l u) x)).map (·.1) = us := by
    rw [List.map_map]
    exact (List.map_congr_left fun _ _ => rfl).trans (List.map_id _)
  have s : ((standOf l x us).map (·.1)).Sublist ((us.map fun u => (u, partR (ofU l u) x)).map (·.1)) := List.Sublist.map _ List.filter_sublist
  rw [h2] at s
  exact List.Pairwise.sublist s h
theorem parts_nd (l : List Row) (x : Nat) : ((parts l x).map (·.1)).Nodup :=
  List.Pairwise.sublist (List.Sublist.map _ List.filter_sublist) (stand_nd l x _ units_nd)
theorem haves_nd (l : List Row) : (haves l).Nodup := List.Pairwise.filter _ units_nd
theorem mem_haves {l : List Row} (g : ∀ z ∈ l, z.1.unit ≤ 99) (u : Nat) : u ∈ haves l ↔ ∃ z ∈ l, z.1.unit = u := by
  unfold haves
  rw [List.mem_filter]
  constructor
  · rintro ⟨_, h⟩
    cases q : ofU l u with
    | nil => rw [q] at h; cases h
    | cons z r =>
      have m : z ∈ ofU l u := by rw [q]; exact List.mem_cons_self
      obtain ⟨m1, m2⟩ := List.mem_filter.mp m
      exact ⟨z, m1, by simpa using m2⟩
  · rintro ⟨z, hz, e⟩
    refine ⟨?_, ?_⟩
    · unfold Kex3.units
      rw [List.mem_range]
      have := g z hz
      unfold Kex3.maxUnit
      omega
    · have m : z ∈ ofU l u := List.mem_filter.mpr ⟨hz, by simpa using e⟩
      cases q : ofU l u with
      | nil => rw [q] at m; cases m
      | cons y r => rfl
theorem haves_sorted (l : List Row) : ((haves l).map fun u : Nat => (u : Int)).Pairwise (· ≤ ·) := by
  rw [List.pairwise_map]
  refine List.Pairwise.filter _ ?_
  refine List.Pairwise.imp (R := fun a b : Nat => a < b) (fun {a b} h => by omega) ?_
  exact List.pairwise_lt_range
theorem sorted_keys {l : List Row} (g : ∀ z ∈ l, z.1.unit ≤ 99) {ks : List Nat} (nd : ks.Nodup) (hk : ∀ u, u ∈ ks ↔ ∃ z ∈ l, z.1.unit = u) {ns : List Int} (hp : ns.Perm (ks.map fun u : Nat => (u : Int))) (hs : ns.Pairwise (· ≤ ·)) : ns = (haves l).map fun u : Nat => (u : Int) := by
  have p1 : ks.Perm (haves l) := (List.perm_ext_iff_of_nodup nd (haves_nd l)).mpr fun u => by rw [hk, mem_haves g]
  exact sorted_one (key := fun i : Int => i) (hp.trans (p1.map _)) (fun _ _ _ _ e => e) hs (haves_sorted l)
theorem standOf_snoc (l : List Row) (x : Nat) (us : List Nat) (u : Nat) : standOf l x (us ++ [u]) = if (partR (ofU l u) x != .absent) = true then standOf l x us ++ [(u, partR (ofU l u) x)] else standOf l x us := by
  unfold standOf
  rw [List.map_append, List.map_cons, List.map_nil, filter_snoc]
theorem standOf_keys {l : List Row} {x : Nat} {us : List Nat} {u : Nat} (h : u ∈ (standOf l x us).map (·.1)) : u ∈ us := by
  obtain ⟨y, hy, e⟩ := List.mem_map.mp h
  obtain ⟨v, hv, e2⟩ := List.mem_map.mp (List.mem_filter.mp hy).1
  rw [← e, ← e2]
  exact hv
theorem toldI_two (x : Told) : ∃ a b, toldI x = [a, b] := by
  cases x
  · exact ⟨_, _, rfl⟩
  · exact ⟨_, _, rfl⟩
  · exact ⟨_, _, rfl⟩
section
variable {K : PySem.W.Frag} {H : Hp} {σ : L2.St}
/-! ### two pairs compared -/
theorem dp_pair {p : Addr} {a b : Int} (h : SqT K H p [.int a, .int b]) : Dp K H (.ref p) (.tuple [.int a, .int b]) := .tup h (.cons (.int a) (.cons (.int b) .nil))
theorem eqv_pair (a b c d : Int) : PyData.eqv (.tuple [.int a, .int b]) (.tuple [.int c, .int d]) = decide (([a, b] : List Int) = [c, d]) := by
  have h : PyData.eqv (.tuple [.int a, .int b]) (.tuple [.int c, .int d]) = (a == c && (b == d && true)) := rfl
  rw [h, Bool.eq_iff_iff]
  simp
theorem shaped_pair (a b : Int) : SeqAt.shaped (.tuple [.int a, .int b]) = true := rfl
theorem ev_eqT {ta tb : TE} {p q : Addr} {ns ms : List Int} (ha : Ev ta σ H (.ref p)) (hb : Ev tb σ H (.ref q)) (h1 : SqT K H p (ns.map V.int)) (h2 : SqT K H q (ms.map V.int)) (n2 : ∃ a b, ns = [a, b]) (m2 : ∃ a b, ms = [a, b]) : Ev (tOp (rEqD K) ta tb) σ H (.bl (decide (ns = ms))) := by
  obtain ⟨a, b, rfl⟩ := n2
  obtain ⟨c, d, rfl⟩ := m2
  exact ev_op ha hb fun H1 e Q k => ⟨_, _, dp_pair (ex_t e h1), dp_pair (ex_t e h2), shaped_pair _ _, shaped_pair _ _, by rw [eqv_pair]; exact k H1 (Ex.refl _)⟩
theorem ev_neT {ta tb : TE} {p q : Addr} {ns ms : List Int} (ha : Ev ta σ H (.ref p)) (hb : Ev tb σ H (.ref q)) (h1 : SqT K H p (ns.map V.int)) (h2 : SqT K H q (ms.map V.int)) (n2 : ∃ a b, ns = [a, b]) (m2 : ∃ a b, ms = [a, b]) : Ev (tOp (rNeD K) ta tb) σ H (.bl (!decide (ns = ms))) := by
  obtain ⟨a, b, rfl⟩ := n2
  obtain ⟨c, d, rfl⟩ := m2
  exact ev_op ha hb fun H1 e Q k => ⟨_, _, dp_pair (ex_t e h1), dp_pair (ex_t e h2), shaped_pair _ _, shaped_pair _ _, by rw [eqv_pair]; exact k H1 (Ex.refl _)⟩
theorem told_ab (x : Told) : decide (toldI x = [-1, -1]) = (x == .absent) := by
  rw [Bool.eq_iff_iff, decide_eq_true_iff, toldI_absent, beq_iff_eq]
theorem told_co (x : Told) : decide (toldI x = [-2, -2]) = (x == .conf) := by
  rw [Bool.eq_iff_iff, decide_eq_true_iff, toldI_conf, beq_iff_eq]
end
section
variable {P : Program} {w : World} {K : PySem.W.Frag} {mg : Str → Option Value} {base : Heap} {A : Adr}
def tref : Addr × Told → V := fun x => .ref x.1
def TolD (K : PySem.W.Frag) (H : Hp) (d : List (Nat × (Addr × Told))) : Prop := ∀ x ∈ d, SqT K H x.2.1 ((toldI x.2.2).map V.int)
def tells (d : List (Nat × (Addr × Told))) : List (Nat × Told) := d.map fun x => (x.1, x.2.2)
def ResTold (K : PySem.W.Frag) (m : List (Nat × Told)) : V → Hp → Prop := fun v H => ∃ p d, v = .ref p ∧ H p = some (.dK (encD tref d)) ∧ tells d = m ∧ TolD K H d
theorem TolD.mono {H H' : Hp} {d : List (Nat × (Addr × Told))} (e : Ex H H') (h : TolD K H d) : TolD K H' d := fun x hx => ex_t e (h x hx)
theorem tells_keys (d : List (Nat × (Addr × Told))) : (tells d).map (·.1) = d.map (·.1) := by
  unfold tells
  rw [List.map_map]
  rfl
theorem tells_at {d : List (Nat × (Addr × Told))} {i : Nat} {x : Nat × (Addr × Told)} (h : d[i]? = some x) : (tells d)[i]? = some (x.1, x.2.2) := by
  unfold tells
  rw [List.getElem?_map, h]
  rfl
theorem tells_len (d : List (Nat × (Addr × Told))) : (tells d).length = d.length := by
  unfold tells
  rw [List.length_map]
/-! ### standings -/
abbrev s_standings : Stmt := top 21
theorem sc_standings : FnScope ["ledger", "experiment", "known", "found", "unit", "told"] ["ledger", "experiment"] (defScope s_standings) := ⟨rfl, rfl, rfl, by decide +kernel, rfl, by decide +kernel, by decide +kernel⟩
def spStand (K : PySem.W.Frag) (A : Adr) : Sp := fun vs H Q _ => ∃ a ae s x, vs = [.ref a, .int ((x : Nat) : Int)] ∧ LedAt A H a ae s ∧ Good s ∧ RetP (ResTold K (stand (effectiveAll s) x)) H Q
theorem ok_standings (T : Txt K w mg A) (F : FunH K mg "standings" s_standings ["ledger", "experiment"]) (G_rows_by_unit : Has P w K mg base 5 "rows_by_unit" (spBy K A)) (G_participation : Has P w K mg base 2 "participation" (spPart K)) :
    Has P w K mg base 6 "standings" (spStand K A) := by
  refine F.ok sc_standings (fun vs H Q E h => ?_) (fun f cdv Ar outer s H vs Q E hr h => ⟨_, by have hu := hu_of hr; exact (pss_cons (ps_set (i := 2) sc_standings.nd rfl (by first | exact Or.inl rfl | exact Or.inr rfl) (pe_callH G_rows_by_unit (hr.mono (by decide)) (by rfl) (pa_cons (pv 0) pa_nil)))   (pss_cons (ps_set (i := 3) sc_standings.nd rfl (by first | exact Or.inl rfl | exact Or.inr rfl) pe_dnewK)   (pss_cons (ps_for PassesOwn.never rfl (pi_list (pe_callB cr_sorted (by rfl) T.n_sorted (by decide +kernel) (pa_cons (pe_callTy (call_listD rfl) (by rfl) T.n_list (by decide +kernel) (pa_cons (pv 2) pa_nil)) pa_nil))) (pg_name (i := 4) sc_standings.nd rfl (by first | exact Or.inl rfl | exact Or.inr rfl)) (pss_cons (ps_set (i := 5) sc_standings.nd rfl (by first | exact Or.inl rfl | exact Or.inr rfl) (pe_callH G_participation (hr.mono (by decide)) (by rfl) (pa_cons (pe_dget hu (pv 2) (pv 4) (fun _ _ => rfl)) (pa_cons (pv 1) pa_nil))))   (pss_one (ps_if (pt_cmpR (op_neD hr.units) (pv 5) (pe_gref (by rfl) T.g_ABSENT) (nomark _)) (pss_one (ps_dput hu (pv 3) (pv 4) (pv 5) rfl)) pss_nil))))   (pss_one (ps_ret (pv 3)))))), ?_⟩)
  · obtain ⟨a, ae, s, x, rfl, _⟩ := h
    rfl
  · obtain ⟨a, ae, s, x, rfl, hL, g, k⟩ := h
    refine q_asgP (evp_by rfl hL g) fun v H1 e1 ⟨p, d, ev, h1, hb⟩ => ?_
    subst ev
    have hl := raw_len g
    have hgu : ∀ z ∈ effectiveAll s, z.1.unit ≤ 99 := fun z hz => (all_good g hz).con.unit
    generalize effectiveAll s = l at hb hl hgu k
    obtain ⟨b1, b2, b3, b4⟩ := hb
    refine q_dnew fun fd hf => ?_
    have e2 : Ex H1 (upd H1 fd (.dK [])) := Ex.new hf
    -- sorted(list(known))
    refine ⟨_, rfl, p, _, rfl, .inl (e2 _ _ h1), fun q1 n1 => ⟨q1, (d.map (·.1)).map (fun u : Nat => (u : Int)), rfl, sq_of (by
      rw [upd_same]
      unfold encD
      rw [List.map_map, List.map_map, List.map_map]
      rfl), by rw [List.length_map, List.length_map]; omega, fun ns q2 hp hs n2 => ?_⟩⟩
    rw [sorted_keys hgu b1 b2 hp hs]
    have e3 : Ex (upd H1 fd (.dK [])) (upd (upd (upd H1 fd (.dK [])) q1 (.lst ((encD arf d).map fun kv => kV kv.1))) q2 (.lst (((haves l).map fun u : Nat => (u : Int)).map V.int))) := (Ex.new n1).trans (Ex.new n2)
    have hq2 : (upd (upd (upd H1 fd (.dK [])) q1 (.lst ((encD arf d).map fun kv => kV kv.1))) q2 (.lst (((haves l).map fun u : Nat => (u : Int)).map V.int))) q2 = some (.lst (natI (haves l))) := by
      rw [upd_same]
      unfold natI
      rw [List.map_map]
      rfl
    generalize (upd (upd (upd H1 fd (.dK [])) q1 (.lst ((encD arf d).map fun kv => kV kv.1))) q2 (.lst (((haves l).map fun u : Nat => (u : Int)).map V.int))) = H3 at e3 hq2
    have hf3 : H3 fd = some (.dK []) := e3 _ _ upd_same
    refine ⟨q2, rfl, ⟨_, sq_of hq2⟩, for_listN (fun i σ' H' => ∃ y y2 m, σ' = [some (.ref a), some (.int (x : Int)), some (.ref p), some (.ref fd), y, y2] ∧ ExB fd H3 H' ∧ H' fd = some (.dK (encD tref m)) ∧ tells m = standOf l x ((haves l).take i) ∧ TolD K H' m)
      ⟨_, _, [], rfl, ExB.refl, hf3, rfl, fun z hz => absurd hz (by simp)⟩ (fun i σ' H' _ q => by
        obtain ⟨_, _, _, _, q, _⟩ := q
        exact exb_l (noL_dK hf3) q (sq_of hq2)) ?_ ?_⟩
    · rintro i z σ' H' hz ⟨y, y2, m, rfl, w1, w2, w3, w4⟩
      obtain ⟨u, hu1, rfl⟩ := natI_at hz
      have eb : Ex H1 H' := ExB.base (e2.trans e3) hf w1
      have hmem : u ∈ d.map (·.1) := (b2 u).mpr ((mem_haves hgu u).mp (mem_of_at hu1))
      obtain ⟨xy, hxy, exu⟩ := List.mem_map.mp hmem
      obtain ⟨u', lu⟩ := xy
      have exu : u' = u := exu
      subst exu
      have hv : valV (encD arf d) (natK u') = some (.ref lu) := encD_get (mem_getN b1 hxy)
      have hR : RowsL K H' lu (ofU l u') := (b4 _ hxy).mono eb
      have hlen := ofU_len l u'
      refine q_asgP (evp_part (ev_dget (k := natK u') (ev_var rfl) (ev_var rfl) (.inl (eb _ _ h1)) hv) (ev_var rfl) hR (by omega)) fun v H4 e4 ⟨pt, ev, ht⟩ => ?_
      subst ev
      have hsn := standOf_snoc l x ((haves l).take i) u'
      rw [← take_succ hu1] at hsn
      refine s_when (b := (partR (ofU l u') x != .absent)) (et_is (et_test (ev_neT (ms := [-1, -1]) (ev_var rfl) ev_c ht (T.tAb _) (toldI_two _) ⟨_, _, rfl⟩)) (by rw [told_ab]; rfl)) (fun hb H5 e5 => ?_) (fun hb H5 e5 => ?_)
      · have hno : getN m u' = none := by
          cases q : getN m u' with
          | none => rfl
          | some c =>
            have m1 : u' ∈ (tells m).map (·.1) := by
              rw [tells_keys]
              exact List.mem_map.mpr ⟨_, getN_mem q, rfl⟩
            rw [w3] at m1
            have m2 := standOf_keys m1
            exfalso
            obtain ⟨j, hj⟩ := List.mem_iff_getElem?.mp m2
            rw [List.getElem?_take] at hj
            split at hj
            · have := nd_ix (haves_nd l) hj hu1
              omega
            · cases hj
        have hml : m.length ≤ 100 := by
          rw [← tells_len, w3]
          unfold standOf
          refine Nat.le_trans (List.length_filter_le _ _) ?_
          rw [List.length_map]
          refine Nat.le_trans (take_len _ _) ?_
          unfold haves
          refine Nat.le_trans (List.length_filter_le _ _) ?_
          unfold Kex3.units
          rw [List.length_range]
          decide
        refine s_dput (k := natK u') (ev_var rfl) (ev_var rfl) (ev_var rfl) ((e4.trans e5) _ _ w2) (by rw [encD_len]; omega) fun H6 e6 => ?_
        have e46 := (e4.trans e5).trans e6
        refine ⟨_, _, m ++ [(u', (pt, partR (ofU l u') x))], rfl, (w1.andThen e46).put, ?_, ?_, fun c hc => ?_⟩
        · rw [upd_same, ← put_new hno]
          exact congrArg (fun l => some (HO.dK l)) (encD_put (f := tref) m _ (pt, partR (ofU l u') x))
        · rw [hsn, if_pos hb, ← w3]
          unfold tells
          rw [List.map_append]
          rfl
        · refine exb_t (d := fd) (noL_dK (e46 _ _ w2)).t (ExB.put ExB.refl) ?_
          rcases List.mem_append.mp hc with m1 | m1
          · exact ex_t e46 (w4 c m1)
          · have : c = (u', (pt, partR (ofU l u') x)) := by simpa using m1
            rw [this]
            exact ex_t (e5.trans e6) ht
      · refine ⟨_, _, m, rfl, w1.andThen (e4.trans e5), (e4.trans e5) _ _ w2, ?_, w4.mono (e4.trans e5)⟩
        rw [hsn, if_neg (by rw [hb]; simp), w3]
    · rintro σ' H' ⟨y, y2, m, rfl, w1, w2, w3, w4⟩
      rw [natI_len, List.take_length, stand_haves] at w3
      exact s_ret (σ := [some (.ref a), some (.int (x : Int)), some (.ref p), some (.ref fd), y, y2]) (ev_var rfl) fun H4 e4 => k _ _ (((e1.trans (ExB.base (e2.trans e3) hf w1))).trans e4) ⟨fd, m, rfl, e4 _ _ w2, w3, w4.mono e4⟩
theorem evp_stand {σ : L2.St} {H : Hp} {ta tb : TE} {a ae : Addr} {s : Store} {x : Nat} (ha : Ev ta σ H (.ref a)) (hb : Ev tb σ H (.int (x : Int))) (h : LedAt A H a ae s) (g : Good s) : EvP (tCall (spStand K A) [] E0 (tCons ta (tCons tb tNil))) σ H (ResTold K (stand (effectiveAll s) x)) :=
  evp_call (ea_cons ha (ea_cons hb ea_nil)) fun H1 e1 Q k => ⟨a, ae, s, x, rfl, h.mono e1, g, k⟩
end
end Late

/-! D10: participants, the units of a variant. -/
namespace Late
open PySem PySem.Spec PyProof.Rows L2 Evl
open Kex3 (Record Content Store effectiveAll Metric)
section
variable {P : Program} {w : World} {K : PySem.W.Frag} {mg : Str → Option Value} {base : Heap} {A : Adr}
theorem encD_at {β : Type} {f : β → V} {d : List (Nat × β)} {i : Nat} {k : Key} {v : V} (h : (encD f d)[i]? = some (k, v)) : ∃ x, d[i]? = some x ∧ k = natK x.1 ∧ v = f x.2 := by
  unfold encD at h
  rw [List.getElem?_map] at h
  cases q : d[i]? with
  | none => rw [q] at h; cases h
  | some x =>
    rw [q] at h
    cases h
    exact ⟨x, rfl, rfl, rfl⟩
theorem tells_nd {d : List (Nat × (Addr × Told))} {m : List (Nat × Told)} (h : tells d = m) (n : (m.map (·.1)).Nodup) : (d.map (·.1)).Nodup := by
  rw [← tells_keys, h]
  exact n
theorem getN_new {β : Type} {d : List (Nat × β)} {u : Nat} (h : u ∉ d.map (·.1)) : getN d u = none := by
  cases q : getN d u with
  | none => rfl
  | some c => exact absurd (List.mem_map.mpr ⟨_, getN_mem q, rfl⟩) h
theorem not_in_take {l : List Nat} (n : l.Nodup) {i u : Nat} (h : l[i]? = some u) : u ∉ l.take i := fun m => by
  obtain ⟨j, hj⟩ := List.mem_iff_getElem?.mp m
  rw [List.getElem?_take] at hj
  split at hj
  · have := nd_ix n hj h
    omega
  · cases hj
theorem tells_snoc (m : List (Nat × (Addr × Told))) (x : Nat × (Addr × Told)) : tells (m ++ [x]) = tells m ++ [(x.1, x.2.2)] := by
  unfold tells
  rw [List.map_append]
  rfl
theorem stand_len (l : List Row) (x : Nat) : (stand l x).length ≤ 100 := by
  unfold stand standOf
  refine Nat.le_trans (List.length_filter_le _ _) ?_
  rw [List.length_map]
  unfold Kex3.units
  rw [List.length_range]
  decide
theorem parts_len (l : List Row) (x : Nat) : (parts l x).length ≤ 100 := Nat.le_trans (List.length_filter_le _ _) (stand_len l x)
/-- behind the lock what is read stands -/
theorem unlock_t {H : Hp} {p : Addr} {od : Obj} {kvs : List (Key × V)} {o : HO} (h : H p = some (.frz od (.dK kvs))) {t : Addr} {xs : List V} (q : SqT K H t xs) : SqT K (upd H p o) t xs := by
  rcases q with (q | ⟨o', q⟩) | q
  · exact .inl (.inl ((upd_ne fun z => by rw [z, h] at q; cases q).trans q))
  · exact .inl (.inr ⟨o', (upd_ne fun z => by rw [z, h] at q; cases q).trans q⟩)
  · exact .inr q
theorem unlock_l {H : Hp} {p : Addr} {od : Obj} {kvs : List (Key × V)} {o : HO} (h : H p = some (.frz od (.dK kvs))) {t : Addr} {xs : List V} (q : SqL K H t xs) : SqL K (upd H p o) t xs := by
  rcases q with (q | ⟨o', q⟩) | q
  · exact .inl (.inl ((upd_ne fun z => by rw [z, h] at q; cases q).trans q))
  · exact .inl (.inr ⟨o', (upd_ne fun z => by rw [z, h] at q; cases q).trans q⟩)
  · exact .inr q
abbrev s_participants : Stmt := top 22
theorem sc_participants : FnScope ["ledger", "experiment", "known", "found", "unit"] ["ledger", "experiment"] (defScope s_participants) := ⟨rfl, rfl, rfl, by decide +kernel, rfl, by decide +kernel, by decide +kernel⟩
def spParts (K : PySem.W.Frag) (A : Adr) : Sp := fun vs H Q _ => ∃ a ae s x, vs = [.ref a, .int ((x : Nat) : Int)] ∧ LedAt A H a ae s ∧ Good s ∧ RetP (fun v H2 => ResTold K (parts (effectiveAll s) x) v H2 ∧ ∃ p, v = .ref p ∧ H p = none) H Q
theorem ok_participants (T : Txt K w mg A) (F : FunH K mg "participants" s_participants ["ledger", "experiment"]) (G_standings : Has P w K mg base 6 "standings" (spStand K A)) : Has P w K mg base 7 "participants" (spParts K A) := by
  refine F.ok sc_participants (fun vs H Q E h => ?_) (fun f cdv Ar outer s H vs Q E hr h => ⟨_, by have hu := hu_of hr; exact (pss_cons (ps_set (i := 2) sc_participants.nd rfl (by first | exact Or.inl rfl | exact Or.inr rfl) (pe_callH G_standings (hr.mono (by decide)) (by rfl) (pa_cons (pv 0) (pa_cons (pv 1) pa_nil))))   (pss_cons (ps_set (i := 3) sc_participants.nd rfl (by first | exact Or.inl rfl | exact Or.inr rfl) pe_dnewK)   (pss_cons (ps_lock (ps_for PassesOwn.never rfl (pi_keys (pv 2)) (pg_name (i := 4) sc_participants.nd rfl (by first | exact Or.inl rfl | exact Or.inr rfl)) (pss_one (ps_if (pt_cmpR (op_neD hr.units) (pe_dget hu (pv 2) (pv 4) (fun _ _ => rfl)) (pe_gref (by rfl) T.g_CONFLICTED) (nomark _)) (pss_one (ps_dput hu (pv 3) (pv 4) (pe_dget hu (pv 2) (pv 4) (fun _ _ => rfl)) rfl)) pss_nil))))   (pss_one (ps_ret (pv 3)))))), ?_⟩)
  · obtain ⟨a, ae, s, x, rfl, _⟩ := h
    rfl
  · obtain ⟨a, ae, s, x, rfl, hL, g, k⟩ := h
    refine q_asgP (evp_stand (ev_var rfl) (ev_var rfl) hL g) fun v H1 e1 ⟨p, d, ev, h1, h2, h3⟩ => ?_
    subst ev
    generalize effectiveAll s = l at h2 k
    have dnd : (d.map (·.1)).Nodup := tells_nd h2 (stand_nd l x _ units_nd)
    have dlen : d.length ≤ 100 := by
      rw [← tells_len, h2]
      exact stand_len l x
    refine q_dnew fun fd hf => ?_
    have pf : p ≠ fd := ne_of_none h1 hf
    refine ⟨p, _, (upd_ne pf).trans h1, trivial, fun od => ?_⟩
    -- the heap under the lock, without the new dict
    have hfp : upd H1 p (.frz od (.dK (encD tref d))) fd = none := by
      rw [upd_ne fun z => pf z.symm]
      exact hf
    have e0 : Ex (upd H1 p (.frz od (.dK (encD tref d)))) (upd (upd H1 fd (.dK [])) p (.frz od (.dK (encD tref d)))) := fun b o q => by
      by_cases c : b = p
      · subst c
        rw [upd_same] at q ⊢
        exact q
      · rw [upd_ne c] at q ⊢
        rw [upd_ne (ne_of_none q hf)]
        exact q
    have t3 : ∀ z ∈ d, SqT K (upd H1 p (.frz od (.dK (encD tref d)))) z.2.1 ((toldI z.2.2).map V.int) := fun z hz => lock_t h1 (h3 z hz)
    have hp0 : upd H1 p (.frz od (.dK (encD tref d))) p = some (.frz od (.dK (encD tref d))) := upd_same
    have f0 : upd (upd H1 fd (.dK [])) p (.frz od (.dK (encD tref d))) fd = some (.dK []) := by
      rw [upd_ne fun z => pf z.symm]
      exact upd_same
    have back : ∀ H', Ex (upd H1 p (.frz od (.dK (encD tref d)))) H' → Ex H1 (upd H' p (.dK (encD tref d))) := fun H' e => lock_back h1 e
    generalize upd H1 p (.frz od (.dK (encD tref d))) = B at hfp e0 t3 hp0 back
    generalize upd (upd H1 fd (.dK [])) p (.frz od (.dK (encD tref d))) = H2 at e0 f0
    refine ⟨_, rfl, p, od, rfl, .inl ⟨_, e0 _ _ hp0, for_it walk_keys (fun i σ' H' => ∃ y m, σ' = [some (.ref a), some (.int (x : Int)), some (.ref p), some (.ref fd), y] ∧ Ex B H' ∧ H' fd = some (.dK (encD tref m)) ∧ tells m = ((tells d).take i).filter (fun z => z.2 != .conf) ∧ TolD K H' m)
      ⟨_, [], rfl, e0, f0, by simp [tells], fun z hz => absurd hz (by simp)⟩ (fun i σ' H' _ ⟨_, _, _, e, _⟩ => e _ _ hp0) ?_ ?_⟩⟩
    · rintro i z σ' H' Hx hi ⟨y, m, rfl, w1, w2, w3, w4⟩ ⟨rfl, kk, vv, q, rfl⟩
      obtain ⟨c, hc, rfl, rfl⟩ := encD_at q
      have hcm := mem_of_at hc
      have hv : valV (encD tref d) (natK c.1) = some (.ref c.2.1) := encD_get (mem_getN (v := c.2) dnd hcm)
      have hrd : ∀ H4, Ex Hx H4 → Rd H4 p (.dK (encD tref d)) := fun H4 e => .inr ⟨od, (w1.trans e) _ _ hp0⟩
      have hsn : ((tells d).take (i + 1)).filter (fun z => z.2 != .conf) = if (c.2.2 != .conf) = true then ((tells d).take i).filter (fun z => z.2 != .conf) ++ [(c.1, c.2.2)] else ((tells d).take i).filter (fun z => z.2 != .conf) := by
        rw [take_succ (tells_at hc), filter_snoc]
      have hg : ∀ H4, Ex Hx H4 → Ev (tDGet (tVar 2) (tVar 4)) [some (.ref a), some (.int (x : Int)), some (.ref p), some (.ref fd), some (.int (c.1 : Int))] H4 (.ref c.2.1) := fun H4 e => ev_dget (k := natK c.1) (ev_var rfl) (ev_var rfl) (hrd H4 e) hv
      refine s_when (b := (c.2.2 != .conf)) (et_is (et_test (ev_neT (ms := [-2, -2]) (hg Hx (Ex.refl _)) ev_c (ex_t w1 (t3 c hcm)) (T.tCo _) (toldI_two _) ⟨_, _, rfl⟩)) (by rw [told_co]; rfl)) (fun hb H5 e5 => ?_) (fun hb H5 e5 => ?_)
      · have hno : getN m c.1 = none := getN_new fun hm => by
          rw [← tells_keys, w3] at hm
          obtain ⟨y', hy', ey⟩ := List.mem_map.mp hm
          have hy2 := (List.mem_filter.mp hy').1
          refine not_in_take (l := (tells d).map (·.1)) (by rw [tells_keys]; exact dnd) (i := i) (u := c.1) (by rw [List.getElem?_map, tells_at hc]; rfl) ?_
          rw [← List.map_take]
          exact List.mem_map.mpr ⟨y', hy2, ey⟩
        have hml : m.length ≤ 100 := by
          rw [← tells_len, w3]
          refine Nat.le_trans (List.length_filter_le _ _) (Nat.le_trans (take_len _ _) ?_)
          rw [tells_len]
          exact dlen
        refine s_dput (k := natK c.1) (hg H5 e5) (ev_var rfl) (ev_var rfl) (e5 _ _ w2) (by rw [encD_len]; omega) fun H6 e6 => ?_
        have e56 := e5.trans e6
        refine ⟨_, m ++ [c], rfl, Ex.mut (w1.trans e56) hfp, ?_, ?_, fun z hz => ?_⟩
        · rw [upd_same, ← put_new hno]
          exact congrArg (fun l => some (HO.dK l)) (encD_put (f := tref) m _ c.2)
        · rw [hsn, if_pos hb, ← w3, tells_snoc]
        · refine exb_t (d := fd) (noL_dK (e56 _ _ w2)).t (ExB.put ExB.refl) ?_
          rcases List.mem_append.mp hz with m1 | m1
          · exact ex_t e56 (w4 z m1)
          · have : z = c := by simpa using m1
            rw [this]
            exact ex_t (w1.trans e56) (t3 c hcm)
      · refine ⟨_, m, rfl, w1.trans e5, e5 _ _ w2, ?_, w4.mono e5⟩
        rw [hsn, if_neg (by rw [hb]; simp), w3]
    · rintro σ' H' ⟨y, m, rfl, w1, w2, w3, w4⟩
      refine ⟨w1 _ _ hp0, ?_⟩
      rw [encD_len, ← tells_len, List.take_length, h2] at w3
      refine s_ret (σ := [some (.ref a), some (.int (x : Int)), some (.ref p), some (.ref fd), y]) (ev_var rfl) fun H4 e4 => k _ _ ((e1.trans (back _ w1)).trans e4) ⟨⟨fd, m, rfl, e4 _ _ ?_, w3, fun z hz => ex_t e4 ?_⟩, fd, rfl, fresh_back e1 hf⟩
      · rw [upd_ne fun z => pf z.symm]
        exact w2
      · exact unlock_t (w1 _ _ hp0) (w4 z hz)
theorem evp_parts {σ : L2.St} {H : Hp} {ta tb : TE} {a ae : Addr} {s : Store} {x : Nat} (ha : Ev ta σ H (.ref a)) (hb : Ev tb σ H (.int (x : Int))) (h : LedAt A H a ae s) (g : Good s) : EvP (tCall (spParts K A) [] E0 (tCons ta (tCons tb tNil))) σ H (ResTold K (parts (effectiveAll s) x)) :=
  evp_call (ea_cons ha (ea_cons hb ea_nil)) fun H1 e1 Q k => ⟨a, ae, s, x, rfl, h.mono e1, g, fun v H2 e2 r => k v H2 e2 r.1⟩
/-- .. and the dict is new -/
theorem evp_partsF {σ : L2.St} {H : Hp} {ta tb : TE} {a ae : Addr} {s : Store} {x : Nat} (ha : Ev ta σ H (.ref a)) (hb : Ev tb σ H (.int (x : Int))) (h : LedAt A H a ae s) (g : Good s) : EvP (tCall (spParts K A) [] E0 (tCons ta (tCons tb tNil))) σ H (fun v H2 => ResTold K (parts (effectiveAll s) x) v H2 ∧ ∃ p, v = .ref p ∧ H p = none) :=
  evp_call (ea_cons ha (ea_cons hb ea_nil)) fun H1 e1 Q k => ⟨a, ae, s, x, rfl, h.mono e1, g, fun v H2 e2 ⟨r, p, ev, np⟩ => k v H2 e2 ⟨r, p, ev, fresh_back e1 np⟩⟩
/-! ### a comprehension over a dict's keys -/
/-- the reading of a comprehension over the keys of a dict that stands: the new list holds what the keys give -/
theorem evp_lcK {β : Type} {f : β → V} {d : List (Nat × β)} {σ : L2.St} {H : Hp} {i j : Nat} {tt : TT} {te : TE} {vs : List Nat} {p : Addr} {Pr : V → Hp → Prop} (t : Nat × β → Bool) (Rel : Nat × β → V → Hp → Prop) (hv : σ[i]? = some (some (.ref p))) (h : H p = some (.dK (encD f d))) (hz : d.length ≤ 40000)
    (hw : ∀ x, wipe ((wipe σ vs).set j (some x)) vs = wipe σ vs) (hE : ∀ a v H H', Ex H H' → Rel a v H → Rel a v H') (hU : ∀ a v H D l l', H D = some (.lst l) → Rel a v H → Rel a v (upd H D (.lst l'))) (hF : ∀ a v H q od kvs o, H q = some (.frz od (.dK kvs)) → Rel a v H → Rel a v (upd H q o))
    (turn : ∀ x ∈ d, ∀ H', (∀ od : Obj, True) → (∀ b o, b ≠ p → H b = some o → H' b = some o) → Rd H' p (.dK (encD f d)) → EvT tt ((wipe σ vs).set j (some (.int (x.1 : Int)))) H' (t x) ∧ (t x = true → EvP te ((wipe σ vs).set j (some (.int (x.1 : Int)))) H' (Rel x)))
    (fin : ∀ D H' (tl : List ((Nat × β) × V)), Ex H H' → tl.map (·.1) = d.filter t → H' D = some (.lst (tl.map (·.2))) → (∀ x ∈ tl, Rel x.1 x.2 H') → Pr (.ref D) H') : EvP (tLockE (tLc (iKeys (tVar i)) (gName j) tt te vs)) σ H Pr := fun H1 e1 Q k => by
  have h1 := e1 _ _ h
  refine ⟨p, _, h1, trivial, fun od => ⟨_, hv, p, od, rfl, .inl ⟨_, upd_same, fun D hD => ?_⟩⟩⟩
  refine lc_fill (xs := d) (walk_keys (kvs := encD f d)) (encD_len d) hz t (fun x v _ => v = .int (x.1 : Int)) Rel hD (fun H' e => e _ _ upd_same) (fun i x H2 H' hi e y => ?_) hE (fun a v H2 l l' q => hU a v H2 D l l' q) (fun x hx v H' e sv => ?_) fun H' tl e q1 q2 q3 => ?_
  · obtain ⟨rfl, kk, vv, q, rfl⟩ := y
    obtain ⟨z, hz, rfl, rfl⟩ := encD_at q
    exact ⟨z, hz, Ex.refl _, rfl⟩
  · subst sv
    obtain ⟨r1, r2⟩ := turn x hx H' (fun _ => trivial) (fun b o n q => e _ _ (by rw [upd_ne n]; exact e1 _ _ q)) (.inr ⟨od, e _ _ upd_same⟩)
    exact ⟨_, fun _ r => r, hw _, r1, r2⟩
  · refine ⟨e _ _ upd_same, ?_⟩
    have eb : Ex H1 (upd H' p (.dK (encD f d))) := lock_back h1 e
    exact k _ _ eb (fin D _ tl (e1.trans eb) q1 (lock_ne e hD q2) fun x hx => hF _ _ _ _ _ _ _ (e _ _ upd_same) (q3 x hx))
/-- .. where each gives a plain value -/
theorem evp_lcKV {β : Type} {f : β → V} {d : List (Nat × β)} {σ : L2.St} {H : Hp} {i j : Nat} {tt : TT} {te : TE} {vs : List Nat} {p : Addr} (t : Nat × β → Bool) (out : Nat × β → V) (hv : σ[i]? = some (some (.ref p))) (h : H p = some (.dK (encD f d))) (hz : d.length ≤ 40000)
    (hw : ∀ x, wipe ((wipe σ vs).set j (some x)) vs = wipe σ vs)
    (turn : ∀ x ∈ d, ∀ H', (∀ b o, b ≠ p → H b = some o → H' b = some o) → Rd H' p (.dK (encD f d)) → EvT tt ((wipe σ vs).set j (some (.int (x.1 : Int)))) H' (t x) ∧ (t x = true → Ev te ((wipe σ vs).set j (some (.int (x.1 : Int)))) H' (out x))) :
    EvP (tLockE (tLc (iKeys (tVar i)) (gName j) tt te vs)) σ H (ResL ((d.filter t).map out)) :=
  evp_lcK t (fun a v _ => v = out a) hv h hz hw (fun _ _ _ _ _ q => q) (fun _ _ _ _ _ _ _ q => q) (fun _ _ _ _ _ _ _ _ q => q)
    (fun x hx H' _ e r => by
      obtain ⟨r1, r2⟩ := turn x hx H' e r
      exact ⟨r1, fun q => ev_p (r2 q)⟩)
    fun D H' tl e q1 q2 q3 => ⟨D, rfl, by rw [q2, tl_fun q1 q3]⟩
/-- what was read ahead of the lock is read under it -/
theorem keep_t {H H' : Hp} {p : Addr} {kvs : List (Key × V)} (h : H p = some (.dK kvs)) (e : ∀ b o, b ≠ p → H b = some o → H' b = some o) {t : Addr} {xs : List V} (q : SqT K H t xs) : SqT K H' t xs := exb_t (noL_dK h).t e q
/-! ### variant_units -/
abbrev s_variant_units : Stmt := top 24
theorem sc_variant_units : FnScope ["ledger", "experiment", "variant", "known", "some", "unit"] ["ledger", "experiment", "variant"] (defScope s_variant_units) := ⟨rfl, rfl, rfl, by decide +kernel, rfl, by decide +kernel, by decide +kernel⟩
/-- tuples of a list of rows and a time -/
def VuAt (K : PySem.W.Frag) (H : Hp) (l : List Row) (ul : List (Addr × (Addr × (Nat × Told)))) : Prop := ∀ x ∈ ul, H x.1 = some (.tup [.ref x.2.1, .int (timeT x.2.2.2 : Int)]) ∧ RowsL K H x.2.1 (ofU l x.2.2.1)
def ResVu (K : PySem.W.Frag) (l : List Row) (m : List (Nat × Told)) : V → Hp → Prop := fun v H => ∃ p ul, v = .ref p ∧ H p = some (.lst (refs ul)) ∧ ul.map (fun x => x.2.2) = m ∧ VuAt K H l ul
theorem VuAt.mono {H H' : Hp} {l : List Row} {ul : List (Addr × (Addr × (Nat × Told)))} (e : Ex H H') (h : VuAt K H l ul) : VuAt K H' l ul := fun x hx => ⟨e _ _ (h x hx).1, (h x hx).2.mono e⟩
def spVu (K : PySem.W.Frag) (A : Adr) : Sp := fun vs H Q _ => ∃ a ae s x v, vs = [.ref a, .int ((x : Nat) : Int), .int ((v : Nat) : Int)] ∧ LedAt A H a ae s ∧ Good s ∧ RetP (ResVu K (effectiveAll s) (vu (effectiveAll s) x v)) H Q
def MadeV (dk : List (Nat × Addr)) (x : Nat × (Addr × Told)) (v : V) (H : Hp) : Prop := ∃ t lu, v = .ref t ∧ (x.1, lu) ∈ dk ∧ H t = some (.tup [.ref lu, .int (timeT x.2.2 : Int)])
theorem made_vu (K : PySem.W.Frag) {H : Hp} {l : List Row} {dk : List (Nat × Addr)} (hR : ∀ x ∈ dk, RowsL K H x.2 (ofU l x.1)) : ∀ {tl : List ((Nat × (Addr × Told)) × V)}, (∀ x ∈ tl, MadeV dk x.1 x.2 H) → ∃ ul : List (Addr × (Addr × (Nat × Told))), refs ul = tl.map (·.2) ∧ ul.map (fun x => x.2.2) = tells (tl.map (·.1)) ∧ VuAt K H l ul
  | [], _ => ⟨[], rfl, rfl, fun x hx => absurd hx (by simp)⟩
  | x :: tl, h => by
    obtain ⟨ul, h1, h2, h3⟩ := made_vu K hR fun y hy => h y (List.mem_cons_of_mem _ hy)
    obtain ⟨t, lu, e, m, q⟩ := h x List.mem_cons_self
    refine ⟨(t, (lu, (x.1.1, x.1.2.2))) :: ul, ?_, ?_, fun y hy => ?_⟩
    · show V.ref t :: refs ul = x.2 :: tl.map (·.2)
      rw [h1, e]
    · show (x.1.1, x.1.2.2) :: ul.map (fun x => x.2.2) = _
      rw [h2]
      rfl
    · rcases List.mem_cons.mp hy with e | m'
      · rw [e]
        exact ⟨q, hR _ m⟩
      · exact h3 y m'
theorem tells_filter (d : List (Nat × (Addr × Told))) (q : Told → Bool) : tells (d.filter fun x => q x.2.2) = (tells d).filter fun x => q x.2 := by
  unfold tells
  rw [List.filter_map]
  rfl
theorem ok_variant_units (T : Txt K w mg A) (F : FunH K mg "variant_units" s_variant_units ["ledger", "experiment", "variant"]) (G_rows_by_unit : Has P w K mg base 5 "rows_by_unit" (spBy K A)) (G_participants : Has P w K mg base 7 "participants" (spParts K A)) :
    Has P w K mg base 8 "variant_units" (spVu K A) := by
  refine F.ok sc_variant_units (fun vs H Q E h => ?_) (fun f cdv Ar outer s H vs Q E hr h => ⟨_, by have hu := hu_of hr; exact (pss_cons (ps_set (i := 3) sc_variant_units.nd rfl (by first | exact Or.inl rfl | exact Or.inr rfl) (pe_callH G_rows_by_unit (hr.mono (by decide)) (by rfl) (pa_cons (pv 0) pa_nil)))   (pss_cons (ps_set (i := 4) sc_variant_units.nd rfl (by first | exact Or.inl rfl | exact Or.inr rfl) (pe_callH G_participants (hr.mono (by decide)) (by rfl) (pa_cons (pv 0) (pa_cons (pv 1) pa_nil))))   (pss_one (ps_ret (pe_lock <| pe_lc (own := [("unit", 5)]) (g := (gName 5)) (tt := (tTest (tOp rEq (tOp (rIxT K) (tDGet (tVar 4) (tVar 5)) (tC (.int 0))) (tVar 2)))) (te := (tTup (tCons (tDGet (tVar 3) (tVar 5)) (tCons (tOp (rIxT K) (tDGet (tVar 4) (tVar 5)) (tC (.int 1))) tNil)))) (by rfl) sc_variant_units.nd (pi_keys (pv 4)) (blkOk_by (own := [("unit", 5)]) (N := ["ledger", "experiment", "variant", "known", "some", "unit"]) (sc := defScope s_variant_units) (by decide +kernel)) (fun _ _ _ _ _ => by exact (pg_name (i := 5) sc_variant_units.nd rfl (by first | exact Or.inl rfl | exact Or.inr rfl))) (fun _ _ _ _ _ => by exact pts_one (pt_cmpR op_eq (pe_ix ix_tup (pe_dget hu (pv 4) (pv 5) (fun _ _ => rfl)) pe_int (fun _ _ => rfl)) (pv 2) (nomark _))) (fun _ _ _ _ _ => by exact (pe_tup (pa_cons (pe_dget hu (pv 3) (pv 5) (fun _ _ => rfl)) (pa_cons (pe_ix ix_tup (pe_dget hu (pv 4) (pv 5) (fun _ _ => rfl)) pe_int (fun _ _ => rfl)) pa_nil))))))))), ?_⟩)
  · obtain ⟨a, ae, s, x, v, rfl, _⟩ := h
    rfl
  · obtain ⟨a, ae, s, x, v, rfl, hL, g, k⟩ := h
    refine q_asgP (evp_by rfl hL g) fun v1 H1 e1 ⟨pk, dk, ev, k1, kb⟩ => ?_
    subst ev
    refine q_asgP (evp_parts (ev_var rfl) (ev_var rfl) (hL.mono e1) g) fun v2 H2 e2 ⟨ps, d, ev, s1, s2, s3⟩ => ?_
    subst ev
    have hgu : ∀ z ∈ effectiveAll s, z.1.unit ≤ 99 := fun z hz => (all_good g hz).con.unit
    generalize effectiveAll s = l at kb s2 hgu k
    obtain ⟨b1, b2, b3, b4⟩ := kb
    have dnd : (d.map (·.1)).Nodup := tells_nd s2 (parts_nd l x)
    have dlen : d.length ≤ 100 := by
      rw [← tells_len, s2]
      exact parts_len l x
    have kp := e2 _ _ k1
    refine s_retP (evp_lcK (i := 4) (f := tref) (d := d) (fun y => isVar v y.2.2) (MadeV dk) rfl s1 (by omega) (fun _ => rfl) (fun y v H H' e ⟨t, lu, q1, q2, q3⟩ => ⟨t, lu, q1, q2, e _ _ q3⟩) (fun y v H D l0 l' hD ⟨t, lu, q1, q2, q3⟩ => ⟨t, lu, q1, q2, (upd_ne fun z => by rw [z, hD] at q3; cases q3).trans q3⟩)
      (fun y v H q od kvs o hq ⟨t, lu, q1, q2, q3⟩ => ⟨t, lu, q1, q2, (upd_ne fun z => by rw [z, hq] at q3; cases q3).trans q3⟩) (fun y hy H' _ e r => ?_) fun D H' tl e q1 q2 q3 => ?_) fun v3 H3 e3 r => k _ _ ((e1.trans e2).trans e3) r
    · have hv : valV (encD tref d) (natK y.1) = some (.ref y.2.1) := encD_get (mem_getN (v := y.2) dnd hy)
      have ht : SqT K H' y.2.1 ((toldI y.2.2).map V.int) := keep_t s1 e (s3 y hy)
      obtain ⟨vv, tt, hy2, hpart, hmem⟩ := parts_mem (l := l) (e := x) (x := (y.1, y.2.2)) (by rw [← s2]; exact List.mem_map.mpr ⟨y, hy, rfl⟩)
      have hy3 : y.2.2 = .part vv tt := (Prod.mk.inj hy2).2
      have hg : Ev (tDGet (tVar 4) (tVar 5)) [some (.ref a), some (.int (x : Int)), some (.int (v : Int)), some (.ref pk), some (.ref ps), some (.int (y.1 : Int))] H' (.ref y.2.1) := ev_dget (k := natK y.1) (ev_var rfl) (ev_var rfl) r hv
      rw [hy3] at ht ⊢
      refine ⟨et_is (et_test (ev_op (ev_op hg ev_c (rv_ixT ht (atI_nat (j := 0) rfl))) (ev_var rfl) (rv_eq rfl))) (eqb _ _), fun _ H4 e4 Q' q => ?_⟩
      have hum : y.1 ∈ dk.map (·.1) := (b2 y.1).mpr ?_
      · obtain ⟨⟨u', lu⟩, hxy, exu⟩ := List.mem_map.mp hum
        have exu : u' = y.1 := exu
        subst exu
        have hkv : valV (encD arf dk) (natK y.1) = some (.ref lu) := encD_get (mem_getN b1 hxy)
        have hkd : Rd H' pk (.dK (encD arf dk)) := by
          by_cases c : pk = ps
          · rw [c, s1] at kp
            rw [c, ← HO.dK.inj (Option.some.inj kp)]
            exact r
          · exact .inl (e _ _ c kp)
        refine eu_tup (ea_cons ((ev_dget (k := natK y.1) (ev_var rfl) (ev_var rfl) hkd hkv).mono e4) (ea_cons (ev_op (hg.mono e4) ev_c (rv_ixT (ex_t e4 ht) (atI_nat (j := 1) rfl))) ea_nil)) (by show 2 ≤ 100000; decide) H4 (Ex.refl _) _ fun pt H5 nt e5 h5 => q _ _ e5 ⟨pt, lu, rfl, hxy, ?_⟩
        rw [h5, hy3]
        rfl
      · cases q : ofU l y.1 with
        | nil =>
          have c := part_some hpart
          rw [q] at c
          cases c
        | cons z0 r0 =>
          have m : z0 ∈ ofU l y.1 := by
            rw [q]
            exact List.mem_cons_self
          obtain ⟨m1, m2⟩ := List.mem_filter.mp m
          exact ⟨z0, m1, by simpa using m2⟩
    · obtain ⟨ul, u1, u2, u3⟩ := made_vu K (l := l) (dk := dk) (fun z hz => (b4 z hz).mono (e2.trans e)) q3
      refine ⟨D, ul, rfl, by rw [u1]; exact q2, ?_, u3⟩
      rw [u2, q1, tells_filter d (isVar v), s2]
      rfl
theorem evp_vu {σ : L2.St} {H : Hp} {ta tb tc : TE} {a ae : Addr} {s : Store} {x v : Nat} (ha : Ev ta σ H (.ref a)) (hb : Ev tb σ H (.int (x : Int))) (hc : Ev tc σ H (.int (v : Int))) (h : LedAt A H a ae s) (g : Good s) :
    EvP (tCall (spVu K A) [] E0 (tCons ta (tCons tb (tCons tc tNil)))) σ H (ResVu K (effectiveAll s) (vu (effectiveAll s) x v)) :=
  evp_call (ea_cons ha (ea_cons hb (ea_cons hc ea_nil))) fun H1 e1 Q k => ⟨a, ae, s, x, v, rfl, h.mono e1, g, k⟩
end
end Late

/-! LateC: what each call of the specification answers, in the program's own functions. Plain Lean. -/
namespace Late
open Kex3

def nI (l : List Nat) : List Int := l.map fun n : Nat => (n : Int)
/-- a call as the specification has it -/
def rowOf (c : Nat) (ns ms : List Nat) : List (List Int) := if c = 17 then [(c : Int) :: nI ns, nI ms] else [(c : Int) :: nI ns]
def codes : List (List Nat) := [[116], [110], [105, 117, 120, 118, 116], [105, 117, 101, 119, 116], [105], [116], [116], [], [], [110], [105], [120, 117], [120], [120, 118], [120], [120, 117, 121, 101, 99, 100], [120, 118, 121, 101, 99, 100], [120, 118], [120, 118, 100, 112], [117, 103], [117], [120, 120], [120, 120], []]
def mostOf (c : Nat) : Nat := if c = 105 then 999 else if c = 117 then 99 else if c = 120 then 7 else if c = 118 then 3 else if c = 101 then 9 else if c = 119 then 10000 else if c = 116 then 100000 else if c = 121 then 2 else if c = 99 then 100000
  else if c = 100 then 100000 else if c = 112 then 10 else if c = 103 then 100000 else 4294967295
/-- is_fit -/
def fitC (c n : Nat) : Bool := if (c = 100 ∨ c = 112) ∧ n = 0 then false else decide (n ≤ mostOf c)
def fitsN (c : Nat) (ns : List Nat) : Bool := ((codes.getD c []).zip ns).all fun p => fitC p.1 p.2
def namesOk (ms : List Nat) : Bool := decide (1 ≤ ms.length) && decide (ms.length ≤ 6) && ms.all fun n => decide (n ≤ 9)
def fits (c : Nat) (ns ms : List Nat) : Bool := fitsN c ns && (c != 17 || namesOk ms)
theorem nat_cast (n : Nat) : Kex3Neutral.nat (n : Int) = n := Int.toNat_natCast n
theorem nats_cast (l : List Nat) : (nI l).map Kex3Neutral.nat = l := by
  unfold nI
  rw [List.map_map]
  exact (List.map_congr_left fun n _ => nat_cast n).trans (List.map_id _)
abbrev stepN (st : State) (c : Nat) (ns ms : List Nat) : State × List Int := Kex3Neutral.step st (rowOf c ns ms)
/-! ### lists of a known length -/
theorem len0 {ns : List Nat} (h : ns.length = 0) : ns = [] := List.eq_nil_of_length_eq_zero h
theorem len1 {ns : List Nat} (h : ns.length = 1) : ∃ a, ns = [a] := match ns, h with | [a], _ => ⟨a, rfl⟩
theorem len2 {ns : List Nat} (h : ns.length = 2) : ∃ a b, ns = [a, b] := match ns, h with | [a, b], _ => ⟨a, b, rfl⟩
theorem len4 {ns : List Nat} (h : ns.length = 4) : ∃ a b c d, ns = [a, b, c, d] := match ns, h with | [a, b, c, d], _ => ⟨a, b, c, d, rfl⟩
theorem len5 {ns : List Nat} (h : ns.length = 5) : ∃ a b c d e, ns = [a, b, c, d, e] := match ns, h with | [a, b, c, d, e], _ => ⟨a, b, c, d, e, rfl⟩
theorem len6 {ns : List Nat} (h : ns.length = 6) : ∃ a b c d e f, ns = [a, b, c, d, e, f] := match ns, h with | [a, b, c, d, e, f], _ => ⟨a, b, c, d, e, f, rfl⟩
/-! ### the calls as requests -/
section
variable (st : State) (a b d e f g : Nat) (ms : List Nat)
theorem rq0 : stepN st 0 [a] ms = ((Kex3.step st (.create a)).1, Kex3Neutral.fields (Kex3.step st (.create a)).2) := by
  show ((Kex3.step st (.create (Kex3Neutral.nat a))).1, Kex3Neutral.fields (Kex3.step st (.create (Kex3Neutral.nat a))).2) = _
  rw [nat_cast]
theorem rq1 : stepN st 1 [a] ms = ((Kex3.step st (.advance a)).1, Kex3Neutral.fields (Kex3.step st (.advance a)).2) := by
  show ((Kex3.step st (.advance (Kex3Neutral.nat a))).1, Kex3Neutral.fields (Kex3.step st (.advance (Kex3Neutral.nat a))).2) = _
  rw [nat_cast]
theorem rq2 : stepN st 2 [a, b, d, e, f] ms = ((Kex3.step st (.expose a b d e f)).1, Kex3Neutral.fields (Kex3.step st (.expose a b d e f)).2) := by
  show ((Kex3.step st (.expose (Kex3Neutral.nat a) (Kex3Neutral.nat b) (Kex3Neutral.nat d) (Kex3Neutral.nat e) (Kex3Neutral.nat f))).1, Kex3Neutral.fields (Kex3.step st (.expose (Kex3Neutral.nat a) (Kex3Neutral.nat b) (Kex3Neutral.nat d) (Kex3Neutral.nat e) (Kex3Neutral.nat f))).2) = _
  simp only [nat_cast]
theorem rq3 : stepN st 3 [a, b, d, e, f] ms = ((Kex3.step st (.recordEvent a b d e f)).1, Kex3Neutral.fields (Kex3.step st (.recordEvent a b d e f)).2) := by
  show ((Kex3.step st (.recordEvent (Kex3Neutral.nat a) (Kex3Neutral.nat b) (Kex3Neutral.nat d) (Kex3Neutral.nat e) (Kex3Neutral.nat f))).1, Kex3Neutral.fields (Kex3.step st (.recordEvent (Kex3Neutral.nat a) (Kex3Neutral.nat b) (Kex3Neutral.nat d) (Kex3Neutral.nat e) (Kex3Neutral.nat f))).2) = _
  simp only [nat_cast]
theorem rq4 : stepN st 4 [a] ms = ((Kex3.step st (.retract a)).1, Kex3Neutral.fields (Kex3.step st (.retract a)).2) := by
  show ((Kex3.step st (.retract (Kex3Neutral.nat a))).1, Kex3Neutral.fields (Kex3.step st (.retract (Kex3Neutral.nat a))).2) = _
  rw [nat_cast]
theorem rq5 : stepN st 5 [a] ms = ((Kex3.step st (.setLateness a)).1, Kex3Neutral.fields (Kex3.step st (.setLateness a)).2) := by
  show ((Kex3.step st (.setLateness (Kex3Neutral.nat a))).1, Kex3Neutral.fields (Kex3.step st (.setLateness (Kex3Neutral.nat a))).2) = _
  rw [nat_cast]
theorem rq6 : stepN st 6 [a] ms = ((Kex3.step st (.setHorizon a)).1, Kex3Neutral.fields (Kex3.step st (.setHorizon a)).2) := by
  show ((Kex3.step st (.setHorizon (Kex3Neutral.nat a))).1, Kex3Neutral.fields (Kex3.step st (.setHorizon (Kex3Neutral.nat a))).2) = _
  rw [nat_cast]
theorem rq7 : stepN st 7 [] ms = ((Kex3.step st .clearHorizon).1, Kex3Neutral.fields (Kex3.step st .clearHorizon).2) := rfl
theorem rq8 : stepN st 8 [] ms = ((Kex3.step st .counts).1, Kex3Neutral.fields (Kex3.step st .counts).2) := rfl
theorem rq9 : stepN st 9 [a] ms = ((Kex3.step st (.getRecord a)).1, Kex3Neutral.fields (Kex3.step st (.getRecord a)).2) := by
  show ((Kex3.step st (.getRecord (Kex3Neutral.nat a))).1, Kex3Neutral.fields (Kex3.step st (.getRecord (Kex3Neutral.nat a))).2) = _
  rw [nat_cast]
theorem rq10 : stepN st 10 [a] ms = ((Kex3.step st (.effective a)).1, Kex3Neutral.fields (Kex3.step st (.effective a)).2) := by
  show ((Kex3.step st (.effective (Kex3Neutral.nat a))).1, Kex3Neutral.fields (Kex3.step st (.effective (Kex3Neutral.nat a))).2) = _
  rw [nat_cast]
theorem rq11 : stepN st 11 [a, b] ms = ((Kex3.step st (.firstExposure a b)).1, Kex3Neutral.fields (Kex3.step st (.firstExposure a b)).2) := by
  show ((Kex3.step st (.firstExposure (Kex3Neutral.nat a) (Kex3Neutral.nat b))).1, Kex3Neutral.fields (Kex3.step st (.firstExposure (Kex3Neutral.nat a) (Kex3Neutral.nat b))).2) = _
  simp only [nat_cast]
theorem rq12 : stepN st 12 [a] ms = ((Kex3.step st (.participants a)).1, Kex3Neutral.fields (Kex3.step st (.participants a)).2) := by
  show ((Kex3.step st (.participants (Kex3Neutral.nat a))).1, Kex3Neutral.fields (Kex3.step st (.participants (Kex3Neutral.nat a))).2) = _
  rw [nat_cast]
theorem rq13 : stepN st 13 [a, b] ms = ((Kex3.step st (.unitsOfVariant a b)).1, Kex3Neutral.fields (Kex3.step st (.unitsOfVariant a b)).2) := by
  show ((Kex3.step st (.unitsOfVariant (Kex3Neutral.nat a) (Kex3Neutral.nat b))).1, Kex3Neutral.fields (Kex3.step st (.unitsOfVariant (Kex3Neutral.nat a) (Kex3Neutral.nat b))).2) = _
  simp only [nat_cast]
theorem rq14 : stepN st 14 [a] ms = ((Kex3.step st (.conflicted a)).1, Kex3Neutral.fields (Kex3.step st (.conflicted a)).2) := by
  show ((Kex3.step st (.conflicted (Kex3Neutral.nat a))).1, Kex3Neutral.fields (Kex3.step st (.conflicted (Kex3Neutral.nat a))).2) = _
  rw [nat_cast]
theorem rq15 : stepN st 15 [a, b, d, e, f, g] ms = ((Kex3.step st (.value a b d e f g)).1, Kex3Neutral.fields (Kex3.step st (.value a b d e f g)).2) := by
  show ((Kex3.step st (.value (Kex3Neutral.nat a) (Kex3Neutral.nat b) (Kex3Neutral.nat d) (Kex3Neutral.nat e) (Kex3Neutral.nat f) (Kex3Neutral.nat g))).1, Kex3Neutral.fields (Kex3.step st (.value (Kex3Neutral.nat a) (Kex3Neutral.nat b) (Kex3Neutral.nat d) (Kex3Neutral.nat e) (Kex3Neutral.nat f) (Kex3Neutral.nat g))).2) = _
  simp only [nat_cast]
theorem rq16 : stepN st 16 [a, b, d, e, f, g] ms = ((Kex3.step st (.totals a b d e f g)).1, Kex3Neutral.fields (Kex3.step st (.totals a b d e f g)).2) := by
  show ((Kex3.step st (.totals (Kex3Neutral.nat a) (Kex3Neutral.nat b) (Kex3Neutral.nat d) (Kex3Neutral.nat e) (Kex3Neutral.nat f) (Kex3Neutral.nat g))).1, Kex3Neutral.fields (Kex3.step st (.totals (Kex3Neutral.nat a) (Kex3Neutral.nat b) (Kex3Neutral.nat d) (Kex3Neutral.nat e) (Kex3Neutral.nat f) (Kex3Neutral.nat g))).2) = _
  simp only [nat_cast]
theorem rq17 : stepN st 17 [a, b] ms = ((Kex3.step st (.funnel a b ms)).1, Kex3Neutral.fields (Kex3.step st (.funnel a b ms)).2) := by
  show ((Kex3.step st (.funnel (Kex3Neutral.nat a) (Kex3Neutral.nat b) ((nI ms).map Kex3Neutral.nat))).1, Kex3Neutral.fields (Kex3.step st (.funnel (Kex3Neutral.nat a) (Kex3Neutral.nat b) ((nI ms).map Kex3Neutral.nat))).2) = _
  simp only [nat_cast, nats_cast]
theorem rq18 : stepN st 18 [a, b, d, e] ms = ((Kex3.step st (.retention a b d e)).1, Kex3Neutral.fields (Kex3.step st (.retention a b d e)).2) := by
  show ((Kex3.step st (.retention (Kex3Neutral.nat a) (Kex3Neutral.nat b) (Kex3Neutral.nat d) (Kex3Neutral.nat e))).1, Kex3Neutral.fields (Kex3.step st (.retention (Kex3Neutral.nat a) (Kex3Neutral.nat b) (Kex3Neutral.nat d) (Kex3Neutral.nat e))).2) = _
  simp only [nat_cast]
theorem rq19 : stepN st 19 [a, b] ms = ((Kex3.step st (.sessions a b)).1, Kex3Neutral.fields (Kex3.step st (.sessions a b)).2) := by
  show ((Kex3.step st (.sessions (Kex3Neutral.nat a) (Kex3Neutral.nat b))).1, Kex3Neutral.fields (Kex3.step st (.sessions (Kex3Neutral.nat a) (Kex3Neutral.nat b))).2) = _
  simp only [nat_cast]
theorem rq20 : stepN st 20 [a] ms = ((Kex3.step st (.timeline a)).1, Kex3Neutral.fields (Kex3.step st (.timeline a)).2) := by
  show ((Kex3.step st (.timeline (Kex3Neutral.nat a))).1, Kex3Neutral.fields (Kex3.step st (.timeline (Kex3Neutral.nat a))).2) = _
  rw [nat_cast]
theorem rq21 : stepN st 21 [a, b] ms = ((Kex3.step st (.shared a b)).1, Kex3Neutral.fields (Kex3.step st (.shared a b)).2) := by
  show ((Kex3.step st (.shared (Kex3Neutral.nat a) (Kex3Neutral.nat b))).1, Kex3Neutral.fields (Kex3.step st (.shared (Kex3Neutral.nat a) (Kex3Neutral.nat b))).2) = _
  simp only [nat_cast]
theorem rq22 : stepN st 22 [a, b] ms = ((Kex3.step st (.crossCounts a b)).1, Kex3Neutral.fields (Kex3.step st (.crossCounts a b)).2) := by
  show ((Kex3.step st (.crossCounts (Kex3Neutral.nat a) (Kex3Neutral.nat b))).1, Kex3Neutral.fields (Kex3.step st (.crossCounts (Kex3Neutral.nat a) (Kex3Neutral.nat b))).2) = _
  simp only [nat_cast]
theorem rq23 : stepN st 23 [] ms = ((Kex3.step st .summary).1, Kex3Neutral.fields (Kex3.step st .summary).2) := rfl
end

/-! ### what is asked of the numbers -/
def lenOf (c : Nat) : Nat := (codes.getD c []).length
theorem fits_n {c : Nat} {ns ms : List Nat} (h : fits c ns ms = true) : fitsN c ns = true := (Bool.and_eq_true_iff.mp h).1
theorem fits_m {ns ms : List Nat} (h : fits 17 ns ms = true) : namesOk ms = true := by
  have := (Bool.and_eq_true_iff.mp h).2
  simpa using this

/-! ### states -/
def pushed (s : Store) (id : Nat) (c : Content) : Store := { s with records := s.records ++ [⟨id, s.clock, c⟩] }
theorem good_push {s : Store} (g : Good s) (hl : ¬ 60 ≤ s.records.length) {id : Nat} {c : Content} (hi : id ≤ 999) (hc : GoodC c) : Good (pushed s id c) where
  len := by
    show (s.records ++ [_]).length ≤ 60
    rw [List.length_append]
    simp
    omega
  ids := fun r hr => by
    rcases List.mem_append.mp hr with m | m
    · exact g.ids r m
    · have : r = ⟨id, s.clock, c⟩ := by simpa using m
      rw [this]
      exact hi
  con := fun r hr => by
    rcases List.mem_append.mp hr with m | m
    · exact g.con r m
    · have : r = ⟨id, s.clock, c⟩ := by simpa using m
      rw [this]
      exact hc
  clock := g.clock
  late := g.late
  arr := fun r hr => by
    rcases List.mem_append.mp hr with m | m
    · exact g.arr r m
    · have : r = ⟨id, s.clock, c⟩ := by simpa using m
      rw [this]
      exact g.clock
theorem good_new {n : Nat} (h : n ≤ 100000) : Good ⟨0, n, none, []⟩ := ⟨by simp, fun r hr => (by cases hr), fun r hr => (by cases hr), Nat.zero_le _, h, fun r hr => (by cases hr)⟩

/-! ### what each operation answers, its numbers within their ranges -/
section
variable {s : Store} {ms : List Nat}
theorem cond_f {p : Prop} [Decidable p] {α : Type} {a b : α} (h : ¬ p) : (if p then a else b) = b := if_neg h
theorem st1 (n : Nat) : stepN (some s) 1 [n] ms = if 100000 < s.clock + n then (some s, [-22]) else (some { s with clock := s.clock + n }, [((s.clock + n : Nat) : Int)]) := by
  rw [rq1]
  show (((if maxTime < s.clock + n then ((some s : State), Result.value (-22)) else (some { s with clock := s.clock + n }, .value (s.clock + n : Nat))).1), Kex3Neutral.fields (if maxTime < s.clock + n then ((some s : State), Result.value (-22)) else (some { s with clock := s.clock + n }, .value (s.clock + n : Nat))).2) = _
  unfold maxTime
  split <;> rfl
/-- storing a record -/
theorem add_is (id : Nat) (c : Content) : ((add s id c).1, Kex3Neutral.fields (add s id c).2) = if 60 ≤ s.records.length then (some s, [-28]) else (some (pushed s id c), [((s.records.length : Nat) : Int)]) := by
  unfold add maxRecords
  split <;> rfl
theorem st2 {i u x v t : Nat} (h1 : i ≤ 999) (h2 : u ≤ 99) (h3 : x ≤ 7) (h4 : v ≤ 3) (h5 : t ≤ 100000) : stepN (some s) 2 [i, u, x, v, t] ms = if 60 ≤ s.records.length then (some s, [-28]) else (some (pushed s i ⟨t, u, 0, x, v⟩), [((s.records.length : Nat) : Int)]) := by
  rw [rq2, ← add_is]
  have e : Kex3.step (some s) (.expose i u x v t) = add s i ⟨t, u, 0, x, v⟩ := cond_f (by unfold maxId maxUnit maxExperiment maxVariant maxTime; omega)
  rw [e]
theorem st3 {i u x v t : Nat} (h1 : i ≤ 999) (h2 : u ≤ 99) (h3 : x ≤ 9) (h4 : v ≤ 10000) (h5 : t ≤ 100000) : stepN (some s) 3 [i, u, x, v, t] ms = if 60 ≤ s.records.length then (some s, [-28]) else (some (pushed s i ⟨t, u, 1, x, v⟩), [((s.records.length : Nat) : Int)]) := by
  rw [rq3, ← add_is]
  have e : Kex3.step (some s) (.recordEvent i u x v t) = add s i ⟨t, u, 1, x, v⟩ := cond_f (by unfold maxId maxUnit maxEvent maxValue maxTime; omega)
  rw [e]
theorem st4 {i : Nat} (h1 : i ≤ 999) : stepN (some s) 4 [i] ms = if 60 ≤ s.records.length then (some s, [-28]) else (some (pushed s i ⟨0, 0, 2, 0, 0⟩), [((s.records.length : Nat) : Int)]) := by
  rw [rq4, ← add_is]
  have e : Kex3.step (some s) (.retract i) = add s i ⟨0, 0, 2, 0, 0⟩ := cond_f (by unfold maxId; omega)
  rw [e]
theorem st5 {n : Nat} (h : n ≤ 100000) : stepN (some s) 5 [n] ms = (some { s with lateness := n }, [(s.lateness : Int)]) := by
  rw [rq5]
  have e : Kex3.step (some s) (.setLateness n) = (some { s with lateness := n }, .value s.lateness) := cond_f (by unfold maxTime; omega)
  rw [e]
  rfl
theorem st6 {n : Nat} (h : n ≤ 100000) : stepN (some s) 6 [n] ms = (some { s with horizon := some n }, [((cnt { s with horizon := some n }).length : Int)]) := by
  rw [rq6]
  have e : Kex3.step (some s) (.setHorizon n) = (some { s with horizon := some n }, .value (s.records.countP fun r => decide (r.arrival ≤ n))) := cond_f (by unfold maxTime; omega)
  rw [e, List.countP_eq_length_filter]
  rfl
theorem st7 : stepN (some s) 7 [] ms = (some { s with horizon := none }, [(s.records.length : Int)]) := rfl
theorem st8 (g : Good s) : stepN (some s) 8 [] ms = (some s, [((cnt s).length : Int), ((effectiveAll s).length : Int), (((cnt s).filter (isLate s)).length : Int), (((cnt s).filter fun r => r.content.kind == 2).length : Int), ((retD (cnt s)).length : Int)]) := by
  rw [rq8]
  show (some s, Kex3Neutral.fields (.values (cnt s).length (toInts [(effectiveAll s).length, (cnt s).countP (isLate s), (cnt s).countP (fun r => r.content.kind == 2), (Kex3.ids s).countP (isRetracted s)]))) = _
  rw [← ret_count g, List.countP_eq_length_filter, List.countP_eq_length_filter]
  rfl
def recI (r : Record) : List Int := [(r.id : Int), (r.arrival : Int), (r.content.kind : Int), (r.content.unit : Int), (r.content.first : Int), (r.content.second : Int), (r.content.time : Int)]
theorem st9 (n : Nat) : stepN (some s) 9 [n] ms = (some s, match s.records[n]? with
    | none => [-2]
    | some r => recI r) := by
  rw [rq9]
  show (some s, Kex3Neutral.fields (match s.records[n]? with
    | none => .value (-2)
    | some r => .values r.id (toInts [r.arrival, r.content.kind] ++ fieldsOf r.content))) = _
  cases s.records[n]? <;> rfl
def effI (c : Content) : List Int := [(c.kind : Int), (c.unit : Int), (c.first : Int), (c.second : Int), (c.time : Int)]
theorem st10 {n : Nat} (h : n ≤ 999) : stepN (some s) 10 [n] ms = (some s, match Kex3.effective s n with
    | none => [-33]
    | some c => effI c) := by
  rw [rq10]
  show (some s, Kex3Neutral.fields (if maxId < n then .value (-22) else match Kex3.effective s n with
    | none => .value (-33)
    | some c => .values c.kind (fieldsOf c))) = _
  rw [if_neg (by unfold maxId; omega)]
  cases Kex3.effective s n <;> rfl
def firstI : Told → List Int
  | .conf => [-34]
  | .absent => [-33]
  | .part v t => [(v : Int), (t : Int)]
theorem st11 {x u : Nat} (h1 : x ≤ 7) (h2 : u ≤ 99) : stepN (some s) 11 [x, u] ms = (some s, firstI (partR (ofU (effectiveAll s) u) x)) := by
  rw [rq11]
  show (some s, Kex3Neutral.fields (if maxExperiment < x ∨ maxUnit < u then .value (-22) else match participation (effectiveAll s) x u with
      | some p => .values p.1 [(p.2 : Int)]
      | none => if isConflicted (effectiveAll s) x u then .value (-34) else .value (-33))) = _
  rw [if_neg (by unfold maxExperiment maxUnit; omega), part_is]
  cases participation (effectiveAll s) x u with
  | some p => rfl
  | none =>
    dsimp only
    cases isConflicted (effectiveAll s) x u <;> rfl
theorem list_is (l : List Nat) : Kex3Neutral.fields (listResult l) = (l.length : Int) :: nI l := rfl
theorem st12 {x : Nat} (h : x ≤ 7) : stepN (some s) 12 [x] ms = (some s, ((parts (effectiveAll s) x).length : Int) :: nI ((parts (effectiveAll s) x).map (·.1))) := by
  rw [rq12]
  show (some s, Kex3Neutral.fields (if maxExperiment < x then .value (-22) else listResult (Kex3.participants (effectiveAll s) x))) = _
  rw [if_neg (by unfold maxExperiment; omega), list_is, ← parts_units, List.length_map]
theorem st13 {x v : Nat} (h : x ≤ 7) (h2 : v ≤ 3) : stepN (some s) 13 [x, v] ms = (some s, ((vu (effectiveAll s) x v).length : Int) :: nI ((vu (effectiveAll s) x v).map (·.1))) := by
  rw [rq13]
  show (some s, Kex3Neutral.fields (if maxExperiment < x ∨ maxVariant < v then .value (-22) else listResult (Kex3.unitsOfVariant (effectiveAll s) x v))) = _
  rw [if_neg (by unfold maxExperiment maxVariant; omega), list_is, ← vu_units, List.length_map]
def confs (l : List Row) (x : Nat) : List (Nat × Told) := (stand l x).filter fun y => y.2 == .conf
theorem st14 {x : Nat} (h : x ≤ 7) : stepN (some s) 14 [x] ms = (some s, ((confs (effectiveAll s) x).length : Int) :: nI ((confs (effectiveAll s) x).map (·.1))) := by
  rw [rq14]
  show (some s, Kex3Neutral.fields (if maxExperiment < x then .value (-22) else listResult (units.filter (isConflicted (effectiveAll s) x)))) = _
  rw [if_neg (by unfold maxExperiment; omega), list_is, ← conf_units, List.length_map]
  rfl
theorem metric_ok {y e c d : Nat} (h1 : y ≤ 2) (h2 : e ≤ 9) (h3 : c ≤ 100000) (h4 : 1 ≤ d) (h5 : d ≤ 100000) : isMetric y e c d = true := by
  unfold isMetric maxEvent maxTime
  simp only [Bool.and_eq_true, decide_eq_true_eq]
  omega
theorem st15 {x u y e c d : Nat} (h : x ≤ 7) (h0 : u ≤ 99) (h1 : y ≤ 2) (h2 : e ≤ 9) (h3 : c ≤ 100000) (h4 : 1 ≤ d) (h5 : d ≤ 100000) : stepN (some s) 15 [x, u, y, e, c, d] ms = (some s, match partR (ofU (effectiveAll s) u) x with
    | .part _ t => [(metricR (ofU (effectiveAll s) u) t ⟨y, e, c, d⟩ : Int)]
    | _ => [-33]) := by
  rw [rq15]
  show (some s, Kex3Neutral.fields (if maxExperiment < x ∨ maxUnit < u ∨ isMetric y e c d = false then .value (-22) else match participation (effectiveAll s) x u with
      | none => .value (-33)
      | some p => .value (metricValue (effectiveAll s) ⟨y, e, c, d⟩ u p.2))) = _
  rw [if_neg (by rw [metric_ok h1 h2 h3 h4 h5]; unfold maxExperiment maxUnit; simp; omega), part_is]
  cases participation (effectiveAll s) x u with
  | some p =>
    dsimp only
    rw [metric_is]
    rfl
  | none =>
    dsimp only
    cases isConflicted (effectiveAll s) x u <;> rfl
theorem st16 {x v y e c d : Nat} (h : x ≤ 7) (h0 : v ≤ 3) (h1 : y ≤ 2) (h2 : e ≤ 9) (h3 : c ≤ 100000) (h4 : 1 ≤ d) (h5 : d ≤ 100000) : stepN (some s) 16 [x, v, y, e, c, d] ms =
    (some s, [((valuesR (effectiveAll s) x v ⟨y, e, c, d⟩).length : Int), ((valuesR (effectiveAll s) x v ⟨y, e, c, d⟩).sum : Int), ((((valuesR (effectiveAll s) x v ⟨y, e, c, d⟩).map fun n : Nat => n * n).sum : Nat) : Int)]) := by
  rw [rq16]
  show (some s, Kex3Neutral.fields (if maxExperiment < x ∨ maxVariant < v ∨ isMetric y e c d = false then .value (-22) else .values (Kex3.totals (effectiveAll s) ⟨y, e, c, d⟩ x v).1 (toInts [(Kex3.totals (effectiveAll s) ⟨y, e, c, d⟩ x v).2.1, (Kex3.totals (effectiveAll s) ⟨y, e, c, d⟩ x v).2.2]))) = _
  rw [if_neg (by rw [metric_ok h1 h2 h3 h4 h5]; unfold maxExperiment maxVariant; simp; omega), totals_is]
  rfl
theorem st17 {x v : Nat} (h : x ≤ 7) (h0 : v ≤ 3) (hm : namesOk ms = true) : stepN (some s) 17 [x, v] ms =
    (some s, (ms.length : Int) :: nI ((List.range ms.length).map fun k => ((depthsR (effectiveAll s) x v ms).filter fun d => decide (k + 1 ≤ d)).length)) := by
  rw [rq17]
  unfold namesOk at hm
  simp only [Bool.and_eq_true, decide_eq_true_eq, List.all_eq_true] at hm
  obtain ⟨⟨m1, m2⟩, m3⟩ := hm
  have hc : ¬ (maxExperiment < x ∨ maxVariant < v ∨ ms.isEmpty = true ∨ 6 < ms.length ∨ ms.any (fun e => decide (maxEvent < e)) = true) := by
    rintro (q | q | q | q | q)
    · unfold maxExperiment at q
      omega
    · unfold maxVariant at q
      omega
    · rw [List.isEmpty_iff] at q
      rw [q] at m1
      simp at m1
    · omega
    · obtain ⟨e, he, c⟩ := List.any_eq_true.mp q
      have := m3 e he
      unfold maxEvent at c
      have := of_decide_eq_true c
      omega
  show (some s, Kex3Neutral.fields (if maxExperiment < x ∨ maxVariant < v ∨ ms.isEmpty = true ∨ 6 < ms.length ∨ ms.any (fun e => decide (maxEvent < e)) = true then .value (-22) else listResult (Kex3.funnel (effectiveAll s) x v ms))) = _
  rw [if_neg hc, list_is, funnel_is, List.length_map, List.length_range]
theorem st18 {x v d p : Nat} (h : x ≤ 7) (h0 : v ≤ 3) (h1 : 1 ≤ d) (h2 : d ≤ 100000) (h3 : 1 ≤ p) (h4 : p ≤ 10) : stepN (some s) 18 [x, v, d, p] ms =
    (some s, (p : Int) :: nI ((List.range p).map fun k => (activesR (effectiveAll s) x v d k).length)) := by
  rw [rq18]
  show (some s, Kex3Neutral.fields (if maxExperiment < x ∨ maxVariant < v ∨ d = 0 ∨ maxTime < d ∨ p = 0 ∨ 10 < p then .value (-22) else listResult (Kex3.retention (effectiveAll s) x v d p))) = _
  rw [if_neg (by unfold maxExperiment maxVariant maxTime; omega), list_is, retention_is, List.length_map, List.length_range]
theorem st19 {u g : Nat} (h : u ≤ 99) (h1 : g ≤ 100000) : stepN (some s) 19 [u, g] ms = (some s, [((sizesR (ofU (effectiveAll s) u) g).length : Int), (maxL (sizesR (ofU (effectiveAll s) u) g) : Int)]) := by
  rw [rq19]
  show (some s, Kex3Neutral.fields (if maxUnit < u ∨ maxTime < g then .value (-22) else .values (Kex3.sessions (((effectiveAll s).filter fun z => z.1.unit == u).map (·.1.time)) g).1 [((Kex3.sessions (((effectiveAll s).filter fun z => z.1.unit == u).map (·.1.time)) g).2 : Int)])) = _
  rw [if_neg (by unfold maxUnit maxTime; omega), sessions_is]
  rfl
def lineI (l : List Row) : List Nat := l.flatMap fun z => [z.2, z.1.time, z.1.kind]
theorem st20 {u : Nat} (h : u ≤ 99) : stepN (some s) 20 [u] ms = (some s, ((ofU (effectiveAll s) u).length : Int) :: nI (lineI (ofU (effectiveAll s) u))) := by
  rw [rq20]
  show (some s, Kex3Neutral.fields (if maxUnit < u then .value (-22) else .values (ofU (effectiveAll s) u).length (toInts (lineI (ofU (effectiveAll s) u))))) = _
  rw [if_neg (by unfold maxUnit; omega)]
  rfl
def sharedR (l : List Row) (x y : Nat) : List Nat := (((parts l x).filter fun z => (getN (parts l y) z.1).isSome)).map (·.1)
theorem parts_get (l : List Row) (x u : Nat) (hu : u ∈ units) : (getN (parts l x) u).isSome = (participation l x u).isSome := by
  rw [← getN_any, parts_eq]
  cases hp : (participation l x u).isSome with
  | true =>
    refine List.any_eq_true.mpr ⟨(u, partR (ofU l u) x), List.mem_map.mpr ⟨u, List.mem_filter.mpr ⟨hu, hp⟩, rfl⟩, by simp⟩
  | false =>
    rw [List.any_eq_false]
    intro y hy c
    obtain ⟨u', hu', rfl⟩ := List.mem_map.mp hy
    have e : u' = u := by simpa using c
    subst e
    have := (List.mem_filter.mp hu').2
    rw [hp] at this
    cases this
theorem shared_is (l : List Row) (x y : Nat) : (Kex3.participants l x).filter (fun u => (participation l y u).isSome) = sharedR l x y := by
  unfold sharedR
  rw [parts_eq l x, List.filter_map, List.map_map]
  refine Eq.trans ?_ ((List.map_congr_left (g := id) fun _ _ => rfl).trans (List.map_id _)).symm
  apply List.filter_congr
  intro u hu
  have hu2 := (List.mem_filter.mp hu).1
  rw [← parts_get l y u hu2]
  rfl
theorem st21 {x y : Nat} (h : x ≤ 7) (h1 : y ≤ 7) : stepN (some s) 21 [x, y] ms = (some s, ((sharedR (effectiveAll s) x y).length : Int) :: nI (sharedR (effectiveAll s) x y)) := by
  rw [rq21]
  show (some s, Kex3Neutral.fields (if maxExperiment < x ∨ maxExperiment < y then .value (-22) else listResult ((Kex3.participants (effectiveAll s) x).filter fun u => (participation (effectiveAll s) y u).isSome))) = _
  rw [if_neg (by unfold maxExperiment; omega), list_is, shared_is]
/-! ### the cross counts -/
theorem getN_parts (l : List Row) (y u : Nat) (hu : u ∈ units) : getN (parts l y) u = (participation l y u).map fun q => Told.part q.1 q.2 := by
  have h := parts_get l y u hu
  cases hp : participation l y u with
  | none =>
    rw [hp] at h
    cases hg : getN (parts l y) u with
    | none => rfl
    | some t =>
      rw [hg] at h
      cases h
  | some q =>
    have hm : u ∈ Kex3.participants l y := List.mem_filter.mpr ⟨hu, by rw [hp]; rfl⟩
    have hm2 : (u, partR (ofU l u) y) ∈ parts l y := by
      rw [parts_eq]
      exact List.mem_map.mpr ⟨u, hm, rfl⟩
    have nd : ((parts l y).map (·.1)).Nodup := by
      rw [parts_units]
      exact List.Pairwise.filter _ units_nd
    rw [mem_getN nd hm2, part_some hp]
    rfl
theorem part_var {l : List Row} (hl : ∀ z ∈ l, GoodZ z) {x u : Nat} {p : Nat × Nat} (h : participation l x u = some p) : p.1 ≤ 3 := by
  have e := part_some h
  unfold partR at e
  cases hx : exR (ofU l u) x with
  | nil =>
    rw [hx] at e
    cases e
  | cons z r =>
    rw [hx] at e
    dsimp only at e
    split at e
    · cases e
    · have hz : z ∈ exR (ofU l u) x := by
        rw [hx]
        exact List.mem_cons_self
      have h2 := List.mem_filter.mp hz
      have g := hl z (ofU_mem h2.1)
      have k : z.1.kind = 0 := by
        have := (Bool.and_eq_true_iff.mp h2.2).1
        simpa using this
      have e1 : z.1.second = p.1 := by injection e
      rw [← e1]
      exact (g.con.expo k).2
def hitB (other : List (Nat × Told)) (k : Nat) (x : Nat × Told) : Bool := match getN other x.1 with
  | none => false
  | some y => 4 * varT x.2 + varT y == k
theorem cross_fold (other : List (Nat × Told)) : ∀ (xs : List (Nat × Told)) (found : List Nat), found.length = 16 → (∀ x ∈ xs, ∀ y, getN other x.1 = some y → 4 * varT x.2 + varT y < 16) → (xs.foldl (crossStep other) found).length = 16 ∧ ∀ k, k < 16 → (xs.foldl (crossStep other) found).getD k 0 = found.getD k 0 + xs.countP (hitB other k)
  | [], found, hf, _ => ⟨hf, fun k _ => rfl⟩
  | x :: xs, found, hf, hx => by
    rw [List.foldl_cons]
    have hs : (crossStep other found x).length = 16 := by
      unfold crossStep
      split
      · exact hf
      · rw [List.length_set]
        exact hf
    obtain ⟨a, b⟩ := cross_fold other xs (crossStep other found x) hs fun x' hx' => hx x' (List.mem_cons_of_mem _ hx')
    refine ⟨a, fun k hk => ?_⟩
    rw [b k hk, List.countP_cons]
    unfold hitB crossStep
    cases hg : getN other x.1 with
    | none =>
      dsimp only
      rw [if_neg (by decide), Nat.add_zero]
    | some y =>
      dsimp only
      have hlt := hx x List.mem_cons_self y hg
      by_cases e : 4 * varT x.2 + varT y = k
      · rw [if_pos (by simpa using e), e, List.getD_eq_getElem?_getD, List.getElem?_set_self (by omega)]
        simp only [Option.getD_some]
        omega
      · rw [if_neg (by simpa using e), List.getD_eq_getElem?_getD, List.getElem?_set_ne e, ← List.getD_eq_getElem?_getD]
        omega
theorem of_getD {l : List Nat} {n : Nat} {f : Nat → Nat} (h : l.length = n) (hf : ∀ k, k < n → l.getD k 0 = f k) : l = (List.range n).map f := by
  apply List.ext_getElem?
  intro k
  by_cases hk : k < n
  · have := hf k hk
    rw [List.getD_eq_getElem?_getD] at this
    rw [List.getElem?_map, List.getElem?_range hk, List.getElem?_eq_getElem (by omega)]
    rw [List.getElem?_eq_getElem (by omega)] at this
    simp only [Option.getD_some] at this
    rw [this]
    rfl
  · rw [List.getElem?_eq_none (by omega), List.getElem?_eq_none (by simp; omega)]
theorem flat16 (f : Nat → Nat → Nat) : ((List.range 4).flatMap fun i => (List.range 4).map fun j => f i j) = (List.range 16).map fun k => f (k / 4) (k % 4) := rfl
def bothR (l : List Row) (x y : Nat) : List (Nat × Nat) := (Kex3.participants l x).filterMap fun u => match participation l x u, participation l y u with
  | some p, some q => some (p.1, q.1)
  | _, _ => none
theorem cross_is {l : List Row} (hl : ∀ z ∈ l, GoodZ z) (x y : Nat) : ((List.range 4).flatMap fun i => (List.range 4).map fun j => (bothR l x y).countP (· == (i, j))) = crossR (parts l x) (parts l y) := by
  rw [flat16]
  have hx : ∀ z ∈ parts l x, ∀ t, getN (parts l y) z.1 = some t → 4 * varT z.2 + varT t < 16 := by
    intro z hz t ht
    obtain ⟨v, w, e, hp, hm⟩ := parts_mem hz
    rw [getN_parts l y _ (List.mem_filter.mp hm).1] at ht
    cases hq : participation l y z.1 with
    | none =>
      rw [hq] at ht
      cases ht
    | some q =>
      rw [hq] at ht
      cases ht
      rw [e]
      have a := part_var hl hp
      have b := part_var hl hq
      simp only [varT]
      simp only at a
      omega
  obtain ⟨a, b⟩ := cross_fold (parts l y) (parts l x) (List.replicate 16 0) rfl hx
  refine (of_getD a fun k hk => ?_).symm
  rw [b k hk, show (List.replicate 16 0).getD k 0 = 0 by
    rw [List.getD_eq_getElem?_getD, List.getElem?_replicate, if_pos hk]
    rfl, Nat.zero_add]
  unfold bothR
  rw [List.countP_filterMap, parts_eq l x, List.countP_map]
  apply List.countP_congr
  intro u hu
  have hu2 := (List.mem_filter.mp hu).1
  have hs := (List.mem_filter.mp hu).2
  cases hp : participation l x u with
  | none =>
    rw [hp] at hs
    cases hs
  | some p =>
    show hitB (parts l y) k (u, partR (ofU l u) x) = true ↔ _
    unfold hitB
    rw [getN_parts l y u hu2, part_some hp]
    cases hq : participation l y u with
    | none => simp
    | some q =>
      have e1 := part_var hl hp
      have e2 := part_var hl hq
      simp only [Option.map_some, Option.getD_some, varT, beq_iff_eq, Prod.mk.injEq]
      omega
theorem st22 (g : Good s) {x y : Nat} (h : x ≤ 7) (h1 : y ≤ 7) : stepN (some s) 22 [x, y] ms = (some s, 16 :: nI (crossR (parts (effectiveAll s) x) (parts (effectiveAll s) y))) := by
  rw [rq22]
  show (some s, Kex3Neutral.fields (if maxExperiment < x ∨ maxExperiment < y then .value (-22) else listResult ((List.range 4).flatMap fun i => (List.range 4).map fun j => (bothR (effectiveAll s) x y).countP (· == (i, j))))) = _
  rw [if_neg (by unfold maxExperiment; omega), list_is, cross_is (fun z hz => all_good g hz)]
  have hl : (crossR (parts (effectiveAll s) x) (parts (effectiveAll s) y)).length = 16 := by
    rw [← cross_is (fun z hz => all_good g hz), flat16]
    simp
  rw [hl]
  rfl
theorem st23 : stepN (some s) 23 [] ms = (some s, [(s.clock : Int), (s.lateness : Int), match s.horizon with
    | none => -1
    | some h => (h : Int), (s.records.length : Int)]) := rfl
theorem st0 (st : State) (n : Nat) : stepN st 0 [n] ms = if 100000 < n then (st, [-22]) else (some ⟨0, n, none, []⟩, [0]) := by
  rw [rq0]
  show (((if maxTime < n then (st, Result.value (-22)) else (some ⟨0, n, none, []⟩, .value 0)).1), Kex3Neutral.fields (if maxTime < n then (st, Result.value (-22)) else (some ⟨0, n, none, []⟩, .value 0)).2) = _
  unfold maxTime
  split <;> rfl
end
end Late

/-! D11: making entries and ledgers, storing, the deeds that change a ledger. -/
namespace Late
open PySem PySem.Spec PyProof.Rows L2 Evl
open Kex3 (Record Content Store effectiveAll Metric)
/-- what may change: the ledger and its list -/
def ExL (a ae : Addr) (H H' : Hp) : Prop := ∀ b o, b ≠ a → b ≠ ae → H b = some o → H' b = some o
theorem ExL.of {a ae : Addr} {H H' : Hp} (e : Ex H H') : ExL a ae H H' := fun b o _ _ q => e b o q
theorem ExL.trans {a ae : Addr} {H H1 H' : Hp} (x : ExL a ae H H1) (y : ExL a ae H1 H') : ExL a ae H H' := fun b o n m q => y b o n m (x b o n m q)
theorem ExL.andThen {a ae : Addr} {H H1 H' : Hp} (x : ExL a ae H H1) (y : Ex H1 H') : ExL a ae H H' := fun b o n m q => y b o (x b o n m q)
theorem ExL.putA {a ae : Addr} {H H1 : Hp} {o : HO} (x : ExL a ae H H1) : ExL a ae H (upd H1 a o) := fun b u n m q => by
  rw [upd_ne n]
  exact x b u n m q
theorem ExL.putE {a ae : Addr} {H H1 : Hp} {o : HO} (x : ExL a ae H H1) : ExL a ae H (upd H1 ae o) := fun b u n m q => by
  rw [upd_ne m]
  exact x b u n m q
def DeedK (A : Adr) (a ae : Addr) (res : Kex3.State × List Int) (H : Hp) (Q : VK) : Prop := ∀ p H' s' out, res = (some s', out) → ExL a ae H H' → LedAt A H' a ae s' → Good s' → H' p = some (.lst (out.map V.int)) → Q (.ref p) H'
theorem DeedK.ro {A : Adr} {a ae : Addr} {res : Kex3.State × List Int} {H : Hp} {Q : VK} {s : Store} {out : List Int} (k : DeedK A a ae res H Q) (e : res = (some s, out)) (hL : LedAt A H a ae s) (g : Good s) : RetP (ResL (out.map V.int)) H Q := fun v H2 x ⟨p, ev, hp⟩ => by
  rw [ev]
  exact k p H2 s out e (ExL.of x) (hL.mono x) g hp
theorem DeedK.mono {A : Adr} {a ae : Addr} {res : Kex3.State × List Int} {H H1 : Hp} {Q : VK} (k : DeedK A a ae res H Q) (e : Ex H H1) : DeedK A a ae res H1 Q := fun p H' s' out r x l g q => k p H' s' out r ((ExL.of e).trans x) l g q
/-- what every deed keeps -/
def spDeed (K : PySem.W.Frag) (A : Adr) (c : Nat) : Sp := fun vs H Q _ => ∃ a ae s pn pm ns ms, vs = [.ref a, .ref pn, .ref pm] ∧ LedAt A H a ae s ∧ Good s ∧ SqL K H pn (natI ns) ∧ SqL K H pm (natI ms) ∧ fits c ns ms = true ∧ ns.length = lenOf c ∧
  DeedK A a ae (stepN (some s) c ns ms) H Q
section
variable {P : Program} {w : World} {K : PySem.W.Frag} {mg : Str → Option Value} {base : Heap} {A : Adr}
variable {σ : L2.St} {H : Hp} {D : Ends} {tz : TS}
/-! ### readings -/
theorem ev_num {ta : TE} {pn : Addr} {ns : List Nat} {j n : Nat} (ha : Ev ta σ H (.ref pn)) (h : SqL K H pn (natI ns)) (hj : ns[j]? = some n) : Ev (tOp (rIxL K) ta (tC (.int (j : Int)))) σ H (.int (n : Int)) :=
  ev_op ha ev_c (rv_ixL h (atI_nat (j := j) (by unfold natI; rw [List.getElem?_map, hj]; rfl)))
theorem q_unl2 {n i j : Nat} {p : Addr} {x y : Nat} (h : σ[n]? = some (some (.ref p))) (hs : SqL K H p (natI [x, y])) (k : tz D ((σ.set i (some (.int (x : Int)))).set j (some (.int (y : Int)))) H) :
    tSeq (tAsg (tVar n) (gUnl K 2 (gCons (gName i) (gCons (gName j) gNil)))) tz D σ H := ⟨.ref p, h, p, _, rfl, hs, rfl, _, _, rfl, _, _, rfl, rfl, k⟩
theorem q_unl4 {n i j i3 i4 : Nat} {p : Addr} {x y z u : Nat} (h : σ[n]? = some (some (.ref p))) (hs : SqL K H p (natI [x, y, z, u])) (k : tz D ((((σ.set i (some (.int (x : Int)))).set j (some (.int (y : Int)))).set i3 (some (.int (z : Int)))).set i4 (some (.int (u : Int)))) H) :
    tSeq (tAsg (tVar n) (gUnl K 4 (gCons (gName i) (gCons (gName j) (gCons (gName i3) (gCons (gName i4) gNil)))))) tz D σ H := ⟨.ref p, h, p, _, rfl, hs, rfl, _, _, rfl, _, _, rfl, _, _, rfl, _, _, rfl, rfl, k⟩
theorem q_unl5 {n i j i3 i4 i5 : Nat} {p : Addr} {x y z u v : Nat} (h : σ[n]? = some (some (.ref p))) (hs : SqL K H p (natI [x, y, z, u, v]))
    (k : tz D (((((σ.set i (some (.int (x : Int)))).set j (some (.int (y : Int)))).set i3 (some (.int (z : Int)))).set i4 (some (.int (u : Int)))).set i5 (some (.int (v : Int)))) H) :
    tSeq (tAsg (tVar n) (gUnl K 5 (gCons (gName i) (gCons (gName j) (gCons (gName i3) (gCons (gName i4) (gCons (gName i5) gNil))))))) tz D σ H := ⟨.ref p, h, p, _, rfl, hs, rfl, _, _, rfl, _, _, rfl, _, _, rfl, _, _, rfl, _, _, rfl, rfl, k⟩
theorem q_appP {Pr : V → Hp → Prop} {ta te : TE} {l : Addr} {xs : List V} (hl : H l = some (.lst xs)) (ha : Ev ta σ H (.ref l)) (h : EvP te σ H Pr) (hz : xs.length < 100000) (k : ∀ v H1, Ex H H1 → Pr v H1 → tz D σ (upd H1 l (.lst (xs ++ [v])))) :
    tSeq (tDrop (tBM K "list" rAppend ta (tCons te tNil))) tz D σ H := ha H (Ex.refl H) _ fun H1 e1 =>
  ⟨Or.inl ⟨rfl, xs, sq_of (e1 l _ hl)⟩, h H1 e1 _ fun v H2 e2 pv => ⟨l, xs, v, rfl, rfl, e2 l _ (e1 l _ hl), sz_lt hz, k v H2 (e1.trans e2) pv⟩⟩
theorem evp_lst1 {te : TE} {v : V} (h : Ev te σ H v) : EvP (tLst (tCons te tNil)) σ H (ResL [v]) := evp_of (el_lst (ea_cons h ea_nil) (by show 1 ≤ 100000; decide))
theorem q_fld {ta tv : TE} {a C dx : Addr} {fs : List (Str × V)} {f : Str} {v : V} (hv : Ev tv σ H v) (ha : Ev ta σ H (.ref a)) (h : H a = some (.ins C dx fs)) (hc : Cls K C) (hn : NoAttr K C f) (hl : fs.length < 1000) (k : ∀ H1, Ex H H1 → tz D σ (upd H1 a (.ins C dx (putF f v fs)))) :
    tSeq (sFld K ta tv f) tz D σ H := hv H (Ex.refl H) _ fun H1 e1 => ha H1 e1 _ fun H2 e2 => ⟨a, C, dx, fs, rfl, (e1.trans e2) _ _ h, hc, hn, hl, k H2 (e1.trans e2)⟩
theorem s_fld {ta tv : TE} {a C dx : Addr} {fs : List (Str × V)} {f : Str} {v : V} (hv : Ev tv σ H v) (ha : Ev ta σ H (.ref a)) (h : H a = some (.ins C dx fs)) (hc : Cls K C) (hn : NoAttr K C f) (hl : fs.length < 1000) (k : ∀ H1, Ex H H1 → D.nx σ (upd H1 a (.ins C dx (putF f v fs)))) :
    sFld K ta tv f D σ H := q_fld (tz := fun D => D.nx) (D := D) hv ha h hc hn hl k
/-! ### __init__ -/
theorem putF_le (f : Str) (v : V) : ∀ fs : List (Str × V), (putF f v fs).length ≤ fs.length + 1
  | [] => Nat.le_refl _
  | (g, x) :: r => by
    unfold putF
    split
    · simp
    · have := putF_le f v r
      simp only [List.length_cons]
      omega
theorem putF_lt {f : Str} {v : V} {fs : List (Str × V)} {n : Nat} (h : fs.length < n) : (putF f v fs).length < n + 1 := by
  have := putF_le f v fs
  omega
theorem lt_of_10 {n : Nat} (h : n < 10) : n < 1000 := by omega
abbrev s_Entry_init : Stmt := inClass (top 5) 0
theorem sc_Entry_init : FnScope ["self", "number", "arrival", "content"] ["self", "number", "arrival", "content"] (defScope s_Entry_init) := ⟨rfl, rfl, rfl, by decide +kernel, rfl, by decide +kernel, by decide +kernel⟩
abbrev s_Ledger_init : Stmt := inClass (top 6) 0
theorem sc_Ledger_init : FnScope ["self", "lateness"] ["self", "lateness"] (defScope s_Ledger_init) := ⟨rfl, rfl, rfl, by decide +kernel, rfl, by decide +kernel, by decide +kernel⟩
def spEntry (A : Adr) : Sp := fun vs H Q _ => ∃ x dx v1 v2 v3, vs = [.ref x, v1, v2, v3] ∧ H x = some (.ins A.cE dx []) ∧ ∀ H', ExB x H H' → H' x = some (.ins A.cE dx [("number", v1), ("arrival", v2), ("content", v3)]) → Q .non H'
theorem ok_Entry (T : Txt K w mg A) {f : Addr} {fd : FuncData} (F : Fun K "__init__" "Entry.__init__" s_Entry_init f fd) : FnOk P w K mg base CX0 1 f fd ["self", "number", "arrival", "content"] (spEntry A) := by
  refine F.ok sc_Entry_init (fun vs H Q E h => ?_) (fun cdv Ar outer s H vs Q E hr h => ⟨_, (pss_cons (ps_fld (pv 0) (pv 1) rfl)   (pss_cons (ps_fld (pv 0) (pv 2) rfl)   (pss_one (ps_fld (pv 0) (pv 3) rfl)))), ?_⟩)
  · obtain ⟨x, dx, v1, v2, v3, rfl, _⟩ := h
    rfl
  · obtain ⟨x, dx, v1, v2, v3, rfl, hx, k⟩ := h
    refine q_fld (ev_var rfl) (ev_var rfl) hx T.clE T.nE1 (by decide) fun H1 e1 => ?_
    refine q_fld (ev_var rfl) (ev_var rfl) upd_same T.clE T.nE2 (lt_of_10 (putF_lt (by decide))) fun H2 e2 => ?_
    refine s_fld (ev_var rfl) (ev_var rfl) upd_same T.clE T.nE3 (lt_of_10 (putF_lt (putF_lt (by decide)))) fun H3 e3 => k _ ?_ upd_same
    exact ((((ExB.of e1).put).andThen e2).put.andThen e3).put
def spLedger (A : Adr) : Sp := fun vs H Q _ => ∃ x dx n, vs = [.ref x, .int ((n : Nat) : Int)] ∧ H x = some (.ins A.cL dx []) ∧ ∀ ae H', ExB x H H' → H ae = none → H' ae = some (.lst []) → LedAt A H' x ae ⟨0, n, none, []⟩ → Q .non H'
theorem ok_Ledger (T : Txt K w mg A) {f : Addr} {fd : FuncData} (F : Fun K "__init__" "Ledger.__init__" s_Ledger_init f fd) : FnOk P w K mg base CX0 1 f fd ["self", "lateness"] (spLedger A) := by
  refine F.ok sc_Ledger_init (fun vs H Q E h => ?_) (fun cdv Ar outer s H vs Q E hr h => ⟨_, (pss_cons (ps_fld (pv 0) pe_int rfl)   (pss_cons (ps_fld (pv 0) (pv 1) rfl)   (pss_cons (ps_fld (pv 0) (pe_gint (by rfl) T.g_NO_HORIZON) rfl)   (pss_one (ps_fld (pv 0) (pe_lst pa_nil) rfl))))), ?_⟩)
  · obtain ⟨x, dx, n, rfl, _⟩ := h
    rfl
  · obtain ⟨x, dx, n, rfl, hx, k⟩ := h
    refine q_fld ev_c (ev_var rfl) hx T.clL T.nL1 (by decide) fun H1 e1 => ?_
    refine q_fld (ev_var rfl) (ev_var rfl) upd_same T.clL T.nL2 (lt_of_10 (putF_lt (by decide))) fun H2 e2 => ?_
    refine q_fld ev_c (ev_var rfl) upd_same T.clL T.nL3 (lt_of_10 (putF_lt (putF_lt (by decide)))) fun H3 e3 => ?_
    refine (el_lst ea_nil (by decide)) _ (Ex.refl _) _ fun p H4 np e4 hp => ?_
    have hx4 := e4 _ _ (upd_same (H := H3) (a := x))
    refine ⟨.ref x, rfl, x, A.cL, dx, _, rfl, hx4, T.clL, T.nL4, lt_of_10 (putF_lt (putF_lt (putF_lt (by decide)))), ?_⟩
    have px : p ≠ x := fun z => by
      rw [z, upd_same] at np
      cases np
    have hp' : upd H4 x (.ins A.cL dx (putF "entries" (.ref p) (putF "horizon" (.int (-1)) (putF "lateness" (.int (n : Int)) (putF "clock" (.int 0) []))))) p = some (.lst []) := by
      rw [upd_ne px]
      exact hp
    have n0 : H p = none := by
      cases q : H p with
      | none => rfl
      | some o =>
        have := (((((ExB.of e1).put).andThen e2).put.andThen e3).put (d := x) (o := .ins A.cL dx (putF "horizon" (.int (-1)) (putF "lateness" (.int (n : Int)) (putF "clock" (.int 0) []))))) p o px q
        rw [np] at this
        cases this
    refine k p _ ((((((ExB.of e1).put).andThen e2).put.andThen e3).put.andThen e4).put) n0 hp' ⟨dx, [], upd_same, hp', rfl, fun y hy => absurd hy (by simp)⟩
end
end Late

/-! D12: storing, and the deeds that change a ledger. -/
namespace Late
open PySem PySem.Spec PyProof.Rows L2 Evl
open Kex3 (Record Content Store effectiveAll Metric)
section
variable {P : Program} {w : World} {K : PySem.W.Frag} {mg : Str → Option Value} {base : Heap} {A : Adr}
variable {σ : L2.St} {H : Hp} {D : Ends} {tz : TS}
/-- an entry made -/
theorem evp_entry {ta tb tc : TE} {v1 v2 v3 : V} (ha : Ev ta σ H v1) (hb : Ev tb σ H v2) (hc : Ev tc σ H v3) : EvP (tMake A.cE (spEntry A) [] E0 (tCons ta (tCons tb (tCons tc tNil)))) σ H fun v H' => ∃ x dx, v = .ref x ∧ H' x = some (.ins A.cE dx [("number", v1), ("arrival", v2), ("content", v3)]) := fun H1 e1 Q k =>
  ea_cons ha (ea_cons hb (ea_cons hc ea_nil)) H1 e1 _ fun H2 e2 x dx nx nd hd => ⟨x, dx, v1, v2, v3, rfl, upd_same, fun H' b q => ⟨rfl, k _ _ (e2.trans fun c o h => by
    have h2 : c ≠ x := ne_of_none h nx
    exact b c o h2 (by rw [upd_ne h2, upd_ne (ne_of_none h nd)]; exact h)) ⟨x, dx, rfl, q⟩⟩⟩
/-! ### stored -/
abbrev s_stored : Stmt := top 33
theorem sc_stored : FnScope ["ledger", "number", "content"] ["ledger", "number", "content"] (defScope s_stored) := ⟨rfl, rfl, rfl, by decide +kernel, rfl, by decide +kernel, by decide +kernel⟩
def spStored (A : Adr) : Sp := fun vs H Q _ => ∃ a ae s i t c, vs = [.ref a, .int ((i : Nat) : Int), .ref t] ∧ LedAt A H a ae s ∧ Good s ∧ i ≤ 999 ∧ GoodC c ∧ H t = some (.tup ((conI c).map V.int)) ∧
  DeedK A a ae (if 60 ≤ s.records.length then (some s, [-28]) else (some (pushed s i c), [((s.records.length : Nat) : Int)])) H Q
theorem ok_stored (T : Txt K w mg A) (F : FunH K mg "stored" s_stored ["ledger", "number", "content"]) (G_Entry : HasC P w K mg base 1 "Entry" A.cE (spEntry A)) : Has P w K mg base 3 "stored" (spStored A) := by
  refine F.ok sc_stored (fun vs H Q E h => ?_) (fun f cdv Ar outer s H vs Q E hr h => ⟨_, (pss_cons (ps_if (pt_cmpR op_eq (pe_callB call_len_seq (by rfl) T.n_len PySem.boot_len (pa_cons (pe_fld (pv 0) (by rfl)) pa_nil)) (pe_gint (by rfl) T.g_MOST_ENTRIES) (nomark _)) (pss_one (ps_ret (pe_lst (pa_cons (pe_un un_neg pe_int) pa_nil)))) pss_nil)   (pss_cons (ps_expr (pe_bm PySem.F.plainAttrs_list PySem.F.slot_list_append PySem.F.type_list_append mt_append (pe_fld (pv 0) (by rfl)) (pa_cons (pe_makeH G_Entry (hr.mono (by decide)) (by rfl) (pa_cons (pv 1) (pa_cons (pe_fld (pv 0) (by rfl)) (pa_cons (pv 2) pa_nil)))) pa_nil)))   (pss_one (ps_ret (pe_lst (pa_cons (pe_op op_sub (pe_callB call_len_seq (by rfl) T.n_len PySem.boot_len (pa_cons (pe_fld (pv 0) (by rfl)) pa_nil)) pe_int) pa_nil)))))), ?_⟩)
  · obtain ⟨a, ae, s, i, t, c, rfl, _⟩ := h
    rfl
  · obtain ⟨a, ae, s, i, t, c, rfl, hL, g, hi, hc, ht, k⟩ := h
    obtain ⟨dx, el, h1, h2, h3, h4⟩ := id hL
    have hfe : Ev (tFld K (tVar 0) "entries") (start ["ledger", "number", "content"] [.ref a, .int (i : Int), .ref t]) H (.ref ae) := ev_fld (ev_var rfl) h1 T.clL T.nL4 rfl
    have hl : (refs el).length = s.records.length := by
      rw [refs_len, ← h3, List.length_map]
    refine q_when (et_test (ev_op (ev_len hfe (sq_of h2)) ev_c (rv_eq rfl))) (fun hb H1 e1 => ?_) (fun hb H1 e1 => ?_)
    · have hb2 : 60 ≤ s.records.length := by
        have := of_decide_eq_true hb
        have := V.int.inj this
        omega
      rw [if_pos hb2] at k
      exact s_retP (evp_lst1 (ev_un ev_c ru_neg)) ((k.mono e1).ro rfl (hL.mono e1) g)
    · have hb2 : ¬ 60 ≤ s.records.length := by
        have hne := of_decide_eq_false hb
        have := g.len
        intro q
        apply hne
        rw [hl, show s.records.length = 60 by omega]
        rfl
      rw [if_neg hb2] at k
      refine q_appP (e1 _ _ h2) (hfe.mono e1) (evp_entry (ev_var rfl) (ev_fld (ev_var rfl) (e1 _ _ h1) T.clL T.nL1 rfl) (ev_var rfl)) (by omega) fun v H2 e2 ⟨x, dx2, ev, hx⟩ => ?_
      subst ev
      have e12 := e1.trans e2
      have n1 : a ≠ ae := fun z => by
        rw [z, h2] at h1
        cases h1
      have n2 : x ≠ ae := fun z => by
        rw [z, e12 _ _ h2] at hx
        cases hx
      have n3 : t ≠ ae := fun z => by
        rw [z, h2] at ht
        cases ht
      have hL2 : LedAt A (upd H2 ae (.lst (refs el ++ [V.ref x]))) a ae (pushed s i c) := by
        refine ⟨dx, el ++ [(x, ⟨i, s.clock, c⟩)], by rw [upd_ne n1]; exact e12 _ _ h1, ?_, ?_, fun y hy => ?_⟩
        · rw [upd_same]
          unfold refs
          rw [List.map_append]
          rfl
        · rw [List.map_append, h3]
          rfl
        · rcases List.mem_append.mp hy with m | m
          · exact ((h4 y m).mono e12).exb (noT_lst (e12 _ _ h2)) (ExB.put ExB.refl)
          · have ey : y = (x, ⟨i, s.clock, c⟩) := by simpa using m
            rw [ey]
            exact ⟨dx2, t, by rw [upd_ne n2]; exact hx, by rw [upd_ne n3]; exact e12 _ _ ht⟩
      have hfe2 : Ev (tFld K (tVar 0) "entries") (start ["ledger", "number", "content"] [.ref a, .int (i : Int), .ref t]) (upd H2 ae (.lst (refs el ++ [V.ref x]))) (.ref ae) := ev_fld (ev_var rfl) (by rw [upd_ne n1]; exact e12 _ _ h1) T.clL T.nL4 rfl
      refine s_retP (evp_lst1 (ev_op (ev_len hfe2 (sq_of upd_same)) ev_c rv_I0)) fun v H3 e3 ⟨p, ev, hp⟩ => ?_
      subst ev
      refine k p H3 _ _ rfl (((ExL.of e12).putE).andThen e3) (hL2.mono e3) (good_push g hb2 hi hc) ?_
      rw [hp, List.length_append, hl]
      show some (HO.lst [V.int (((s.records.length + 1 : Nat) : Int) - 1)]) = some (HO.lst [V.int (s.records.length : Int)])
      congr 4
      omega
/-! ### what the numbers are -/
theorem fit1 {n : Nat} (h : fitsN 1 [n] = true) : n ≤ 4294967295 := by simpa [fitsN, codes, fitC, mostOf] using h
theorem fit2 {i u x v t : Nat} (h : fitsN 2 [i, u, x, v, t] = true) : i ≤ 999 ∧ u ≤ 99 ∧ x ≤ 7 ∧ v ≤ 3 ∧ t ≤ 100000 := by simpa [fitsN, codes, fitC, mostOf] using h
theorem fit3 {i u x v t : Nat} (h : fitsN 3 [i, u, x, v, t] = true) : i ≤ 999 ∧ u ≤ 99 ∧ x ≤ 9 ∧ v ≤ 10000 ∧ t ≤ 100000 := by simpa [fitsN, codes, fitC, mostOf] using h
theorem fit4 {i : Nat} (h : fitsN 4 [i] = true) : i ≤ 999 := by simpa [fitsN, codes, fitC, mostOf] using h
theorem fit5 {i : Nat} (h : fitsN 5 [i] = true) : i ≤ 100000 := by simpa [fitsN, codes, fitC, mostOf] using h
theorem fit6 {i : Nat} (h : fitsN 6 [i] = true) : i ≤ 100000 := by simpa [fitsN, codes, fitC, mostOf] using h
/-! ### advance -/
abbrev s_advance : Stmt := top 34
theorem sc_advance : FnScope ["ledger", "numbers", "names"] ["ledger", "numbers", "names"] (defScope s_advance) := ⟨rfl, rfl, rfl, by decide +kernel, rfl, by decide +kernel, by decide +kernel⟩
theorem LedAt.num {a ae : Addr} {s : Store} (h : LedAt A H a ae s) : ∃ dx, H a = some (.ins A.cL dx (ledF s ae)) := ⟨_, h.choose_spec.choose_spec.1⟩
/-- the ledger's own fields change -/
theorem LedAt.setF {a ae dx : Addr} {s s' : Store} (h : LedAt A H a ae s) (hx : H a = some (.ins A.cL dx (ledF s ae))) (hr : s'.records = s.records) : LedAt A (upd H a (.ins A.cL dx (ledF s' ae))) a ae s' := by
  obtain ⟨dx', el, h1, h2, h3, h4⟩ := h
  have n1 : ae ≠ a := fun z => by
    rw [z, h1] at h2
    cases h2
  refine ⟨dx, el, upd_same, by rw [upd_ne n1]; exact h2, by rw [h3, hr], fun y hy => ?_⟩
  obtain ⟨dy, t, q1, q2⟩ := h4 y hy
  refine ⟨dy, t, ?_, ?_⟩
  · rw [upd_ne fun z => ?_]
    · exact q1
    · rw [z, h1] at q1
      have q := Option.some.inj q1
      injection q with _ _ q3
      have := congrArg List.length q3
      simp [ledF, entF] at this
  · rw [upd_ne fun z => by rw [z, h1] at q2; cases q2]
    exact q2
theorem ok_advance (T : Txt K w mg A) (F : FunH K mg "advance" s_advance ["ledger", "numbers", "names"]) : Has P w K mg base 10 "advance" (spDeed K A 1) := by
  refine F.ok sc_advance (fun vs H Q E h => ?_) (fun f cdv Ar outer s H vs Q E hr h => ⟨_, (pss_cons (ps_if (pt_cmpR op_gt (pe_op op_add (pe_fld (pv 0) (by rfl)) (pe_ix ix_list (pv 1) pe_int (fun _ _ => rfl))) (pe_gint (by rfl) T.g_MOST_CLOCK) (nomark _)) (pss_one (ps_ret (pe_lst (pa_cons (pe_un un_neg pe_int) pa_nil)))) pss_nil)   (pss_cons (ps_fldaug (pv 0) (pe_ix ix_list (pv 1) pe_int (fun _ _ => rfl)) in_add)   (pss_one (ps_ret (pe_lst (pa_cons (pe_fld (pv 0) (by rfl)) pa_nil)))))), ?_⟩)
  · obtain ⟨a, ae, s, pn, pm, ns, ms, rfl, _⟩ := h
    rfl
  · obtain ⟨a, ae, s, pn, pm, ns, ms, rfl, hL, g, hn, hm, hf, hl, k⟩ := h
    obtain ⟨n, rfl⟩ := len1 hl
    rw [st1] at k
    obtain ⟨dx, h1⟩ := hL.num
    have hnum : ∀ H1, Ex H H1 → Ev (tOp (rIxL K) (tVar 1) (tC (.int 0))) (start ["ledger", "numbers", "names"] [.ref a, .ref pn, .ref pm]) H1 (.int (n : Int)) := fun H1 e => ev_num (j := 0) (ev_var rfl) (ex_l e hn) rfl
    refine q_when (et_test (ev_op (ev_op (ev_fld (ev_var rfl) h1 T.clL T.nL1 rfl) (hnum _ (Ex.refl _)) rv_I0) ev_c rv_I0)) (fun hb H1 e1 => ?_) (fun hb H1 e1 => ?_)
    · have hb2 : 100000 < s.clock + n := by
        have := of_decide_eq_true hb
        omega
      rw [if_pos hb2] at k
      exact s_retP (evp_lst1 (ev_un ev_c ru_neg)) ((k.mono e1).ro rfl (hL.mono e1) g)
    · have hb2 : ¬ 100000 < s.clock + n := by
        have := of_decide_eq_false hb
        omega
      rw [if_neg hb2] at k
      refine ⟨.ref a, rfl, a, A.cL, dx, _, _, rfl, e1 _ _ h1, T.clL, T.nL1, rfl, hnum H1 e1 H1 (Ex.refl _) _ fun H2 e2 => ⟨_, _, rfl, rfl, dx, _, (e1.trans e2) _ _ h1, by show 4 < 1000; decide, ?_⟩⟩
      have e12 := e1.trans e2
      have hL2 : LedAt A (upd H2 a (.ins A.cL dx (ledF { s with clock := s.clock + n } ae))) a ae { s with clock := s.clock + n } := (hL.mono e12).setF (e12 _ _ h1) rfl
      have hs : upd H2 a (.ins A.cL dx (putF "clock" (.int ((s.clock : Int) + (n : Int))) (ledF s ae))) = upd H2 a (.ins A.cL dx (ledF { s with clock := s.clock + n } ae)) := by
        rw [← Int.natCast_add]
        rfl
      rw [hs]
      obtain ⟨dx3, h3⟩ := hL2.num
      refine s_retP (evp_lst1 (ev_fld (ev_var rfl) h3 T.clL T.nL1 rfl)) fun v H3 e3 ⟨p, ev, hp⟩ => ?_
      subst ev
      exact k p H3 _ _ rfl (((ExL.of e12).putA).andThen e3) (hL2.mono e3) ⟨g.len, g.ids, g.con, by show s.clock + n ≤ 100000; omega, g.late, g.arr⟩ hp
end
end Late

/-! D13: expose, record_event, retract, set_lateness, set_horizon, clear_horizon. -/
namespace Late
open PySem PySem.Spec PyProof.Rows L2 Evl
open Kex3 (Record Content Store effectiveAll Metric)
section
variable {P : Program} {w : World} {K : PySem.W.Frag} {mg : Str → Option Value} {base : Heap} {A : Adr}
variable {σ : L2.St} {H : Hp} {D : Ends} {tz : TS}
theorem s_store {ta tb : TE} {tu : TA} {a ae : Addr} {s : Store} {i : Nat} {c : Content} (ha : Ev ta σ H (.ref a)) (hb : Ev tb σ H (.int (i : Int))) (hc : EvA tu σ H ((conI c).map V.int)) (hL : LedAt A H a ae s) (g : Good s) (hi : i ≤ 999) (gc : GoodC c)
    (k : DeedK A a ae (if 60 ≤ s.records.length then (some s, [-28]) else (some (pushed s i c), [((s.records.length : Nat) : Int)])) H D.rt) : tRet (tCall (spStored A) [] E0 (tCons ta (tCons tb (tCons (tTup tu) tNil)))) D σ H :=
  ha H (Ex.refl H) _ fun H1 e1 => hb H1 e1 _ fun H2 e2 => eu_tup hc (by show 5 ≤ 100000; decide) H2 (e1.trans e2) _ fun p H3 np e3 hp => ⟨a, ae, s, i, p, c, rfl, hL.mono ((e1.trans e2).trans e3), g, hi, gc, hp, k.mono ((e1.trans e2).trans e3)⟩
abbrev s_expose : Stmt := top 35
theorem sc_expose : FnScope ["ledger", "numbers", "names", "number", "unit", "experiment", "variant", "time"] ["ledger", "numbers", "names"] (defScope s_expose) := ⟨rfl, rfl, rfl, by decide +kernel, rfl, by decide +kernel, by decide +kernel⟩
theorem ok_expose (T : Txt K w mg A) (F : FunH K mg "expose" s_expose ["ledger", "numbers", "names"]) (G_stored : Has P w K mg base 3 "stored" (spStored A)) : Has P w K mg base 10 "expose" (spDeed K A 2) := by
  refine F.ok sc_expose (fun vs H Q E h => ?_) (fun f cdv Ar outer s H vs Q E hr h => ⟨_, (pss_cons (ps_asg (pv 1) (pg_unl (by rfl) (pgs_cons (pg_name (i := 3) sc_expose.nd rfl (by first | exact Or.inl rfl | exact Or.inr rfl)) (pgs_cons (pg_name (i := 4) sc_expose.nd rfl (by first | exact Or.inl rfl | exact Or.inr rfl)) (pgs_cons (pg_name (i := 5) sc_expose.nd rfl (by first | exact Or.inl rfl | exact Or.inr rfl)) (pgs_cons (pg_name (i := 6) sc_expose.nd rfl (by first | exact Or.inl rfl | exact Or.inr rfl)) (pgs_cons (pg_name (i := 7) sc_expose.nd rfl (by first | exact Or.inl rfl | exact Or.inr rfl)) pgs_nil)))))))   (pss_one (ps_ret (pe_callH G_stored (hr.mono (by decide)) (by rfl) (pa_cons (pv 0) (pa_cons (pv 3) (pa_cons (pe_tup (pa_cons (pv 7) (pa_cons (pv 4) (pa_cons (pe_gint (by rfl) T.g_EXPOSURE) (pa_cons (pv 5) (pa_cons (pv 6) pa_nil)))))) pa_nil))))))), ?_⟩)
  · obtain ⟨a, ae, s, pn, pm, ns, ms, rfl, _⟩ := h
    rfl
  · obtain ⟨a, ae, s, pn, pm, ns, ms, rfl, hL, g, hn, hm, hf, hl, k⟩ := h
    obtain ⟨i, u, x, v, t, rfl⟩ := len5 hl
    obtain ⟨b1, b2, b3, b4, b5⟩ := fit2 (fits_n hf)
    rw [st2 b1 b2 b3 b4 b5] at k
    refine q_unl5 rfl hn ?_
    exact s_store (c := ⟨t, u, 0, x, v⟩) (ev_var rfl) (ev_var rfl) (ea_cons (ev_var rfl) (ea_cons (ev_var rfl) (ea_cons ev_c (ea_cons (ev_var rfl) (ea_cons (ev_var rfl) ea_nil))))) hL g b1
      ⟨b2, Nat.zero_le _, by show x ≤ 9; omega, by show v ≤ 10000; omega, b5, fun _ => ⟨b3, b4⟩⟩ k
abbrev s_record_event : Stmt := top 36
theorem sc_record_event : FnScope ["ledger", "numbers", "names", "number", "unit", "event", "value", "time"] ["ledger", "numbers", "names"] (defScope s_record_event) := ⟨rfl, rfl, rfl, by decide +kernel, rfl, by decide +kernel, by decide +kernel⟩
theorem ok_record_event (T : Txt K w mg A) (F : FunH K mg "record_event" s_record_event ["ledger", "numbers", "names"]) (G_stored : Has P w K mg base 3 "stored" (spStored A)) : Has P w K mg base 10 "record_event" (spDeed K A 3) := by
  refine F.ok sc_record_event (fun vs H Q E h => ?_) (fun f cdv Ar outer s H vs Q E hr h => ⟨_, (pss_cons (ps_asg (pv 1) (pg_unl (by rfl) (pgs_cons (pg_name (i := 3) sc_record_event.nd rfl (by first | exact Or.inl rfl | exact Or.inr rfl)) (pgs_cons (pg_name (i := 4) sc_record_event.nd rfl (by first | exact Or.inl rfl | exact Or.inr rfl)) (pgs_cons (pg_name (i := 5) sc_record_event.nd rfl (by first | exact Or.inl rfl | exact Or.inr rfl)) (pgs_cons (pg_name (i := 6) sc_record_event.nd rfl (by first | exact Or.inl rfl | exact Or.inr rfl)) (pgs_cons (pg_name (i := 7) sc_record_event.nd rfl (by first | exact Or.inl rfl | exact Or.inr rfl)) pgs_nil)))))))   (pss_one (ps_ret (pe_callH G_stored (hr.mono (by decide)) (by rfl) (pa_cons (pv 0) (pa_cons (pv 3) (pa_cons (pe_tup (pa_cons (pv 7) (pa_cons (pv 4) (pa_cons (pe_gint (by rfl) T.g_EVENT) (pa_cons (pv 5) (pa_cons (pv 6) pa_nil)))))) pa_nil))))))), ?_⟩)
  · obtain ⟨a, ae, s, pn, pm, ns, ms, rfl, _⟩ := h
    rfl
  · obtain ⟨a, ae, s, pn, pm, ns, ms, rfl, hL, g, hn, hm, hf, hl, k⟩ := h
    obtain ⟨i, u, x, v, t, rfl⟩ := len5 hl
    obtain ⟨b1, b2, b3, b4, b5⟩ := fit3 (fits_n hf)
    rw [st3 b1 b2 b3 b4 b5] at k
    refine q_unl5 rfl hn ?_
    exact s_store (c := ⟨t, u, 1, x, v⟩) (ev_var rfl) (ev_var rfl) (ea_cons (ev_var rfl) (ea_cons (ev_var rfl) (ea_cons ev_c (ea_cons (ev_var rfl) (ea_cons (ev_var rfl) ea_nil))))) hL g b1
      ⟨b2, by show 1 ≤ 2; decide, b3, b4, b5, fun h => absurd h (by decide : ¬ (1 : Nat) = 0)⟩ k
abbrev s_retract : Stmt := top 37
theorem sc_retract : FnScope ["ledger", "numbers", "names"] ["ledger", "numbers", "names"] (defScope s_retract) := ⟨rfl, rfl, rfl, by decide +kernel, rfl, by decide +kernel, by decide +kernel⟩
theorem ok_retract (T : Txt K w mg A) (F : FunH K mg "retract" s_retract ["ledger", "numbers", "names"]) (G_stored : Has P w K mg base 3 "stored" (spStored A)) : Has P w K mg base 10 "retract" (spDeed K A 4) := by
  refine F.ok sc_retract (fun vs H Q E h => ?_) (fun f cdv Ar outer s H vs Q E hr h => ⟨_, (pss_one (ps_ret (pe_callH G_stored (hr.mono (by decide)) (by rfl) (pa_cons (pv 0) (pa_cons (pe_ix ix_list (pv 1) pe_int (fun _ _ => rfl)) (pa_cons (pe_tup (pa_cons pe_int (pa_cons pe_int (pa_cons (pe_gint (by rfl) T.g_RETRACTION) (pa_cons pe_int (pa_cons pe_int pa_nil)))))) pa_nil)))))), ?_⟩)
  · obtain ⟨a, ae, s, pn, pm, ns, ms, rfl, _⟩ := h
    rfl
  · obtain ⟨a, ae, s, pn, pm, ns, ms, rfl, hL, g, hn, hm, hf, hl, k⟩ := h
    obtain ⟨i, rfl⟩ := len1 hl
    have b1 := fit4 (fits_n hf)
    rw [st4 b1] at k
    exact s_store (c := ⟨0, 0, 2, 0, 0⟩) (ev_var rfl) (ev_num (j := 0) (ev_var rfl) hn rfl) (ea_cons ev_c (ea_cons ev_c (ea_cons ev_c (ea_cons ev_c (ea_cons ev_c ea_nil))))) hL g b1
      ⟨Nat.zero_le _, Nat.le_refl _, Nat.zero_le _, Nat.zero_le _, Nat.zero_le _, fun h => absurd h (by decide : ¬ (2 : Nat) = 0)⟩ k
abbrev s_set_lateness : Stmt := top 38
theorem sc_set_lateness : FnScope ["ledger", "numbers", "names", "previous"] ["ledger", "numbers", "names"] (defScope s_set_lateness) := ⟨rfl, rfl, rfl, by decide +kernel, rfl, by decide +kernel, by decide +kernel⟩
theorem ok_set_lateness (T : Txt K w mg A) (F : FunH K mg "set_lateness" s_set_lateness ["ledger", "numbers", "names"]) : Has P w K mg base 10 "set_lateness" (spDeed K A 5) := by
  refine F.ok sc_set_lateness (fun vs H Q E h => ?_) (fun f cdv Ar outer s H vs Q E hr h => ⟨_, (pss_cons (ps_set (i := 3) sc_set_lateness.nd rfl (by first | exact Or.inl rfl | exact Or.inr rfl) (pe_fld (pv 0) (by rfl)))   (pss_cons (ps_fld (pv 0) (pe_ix ix_list (pv 1) pe_int (fun _ _ => rfl)) rfl)   (pss_one (ps_ret (pe_lst (pa_cons (pv 3) pa_nil)))))), ?_⟩)
  · obtain ⟨a, ae, s, pn, pm, ns, ms, rfl, _⟩ := h
    rfl
  · obtain ⟨a, ae, s, pn, pm, ns, ms, rfl, hL, g, hn, hm, hf, hl, k⟩ := h
    obtain ⟨n, rfl⟩ := len1 hl
    have b1 := fit5 (fits_n hf)
    rw [st5 b1] at k
    obtain ⟨dx, h1⟩ := hL.num
    refine q_asg (ev_fld (ev_var rfl) h1 T.clL T.nL2 rfl) fun H1 e1 => ?_
    refine q_fld (ev_num (j := 0) (ev_var rfl) (ex_l e1 hn) rfl) (ev_var rfl) (e1 _ _ h1) T.clL T.nL2 (by show 4 < 1000; decide) fun H2 e2 => ?_
    have e12 := e1.trans e2
    have hL2 : LedAt A (upd H2 a (.ins A.cL dx (putF "lateness" (.int (n : Int)) (ledF s ae)))) a ae { s with lateness := n } := (hL.mono e12).setF (s' := { s with lateness := n }) (e12 _ _ h1) rfl
    refine s_retP (evp_lst1 (ev_var rfl)) fun v H3 e3 ⟨p, ev, hp⟩ => ?_
    subst ev
    exact k p H3 _ _ rfl (((ExL.of e12).putA).andThen e3) (hL2.mono e3) ⟨g.len, g.ids, g.con, g.clock, b1, g.arr⟩ hp
theorem ev_lenE {te : TE} {l : List Record} (h : EvP te σ H (ResEnts A l)) : Ev (tCB (rLenS K) (tCons te tNil)) σ H (.int (l.length : Int)) := fun H1 e Q q =>
  h H1 e _ fun v H2 e2 ⟨p, el, ev, hp, hl, _⟩ => ⟨p, refs el, by rw [ev], .inl (sq_of hp), by rw [refs_len, ← List.length_map (f := (·.2)), hl]; exact q H2 e2⟩
abbrev s_set_horizon : Stmt := top 39
theorem sc_set_horizon : FnScope ["ledger", "numbers", "names"] ["ledger", "numbers", "names"] (defScope s_set_horizon) := ⟨rfl, rfl, rfl, by decide +kernel, rfl, by decide +kernel, by decide +kernel⟩
theorem ok_set_horizon (T : Txt K w mg A) (F : FunH K mg "set_horizon" s_set_horizon ["ledger", "numbers", "names"]) (G_counting : Has P w K mg base 1 "counting" (spCounting A)) : Has P w K mg base 10 "set_horizon" (spDeed K A 6) := by
  refine F.ok sc_set_horizon (fun vs H Q E h => ?_) (fun f cdv Ar outer s H vs Q E hr h => ⟨_, (pss_cons (ps_fld (pv 0) (pe_ix ix_list (pv 1) pe_int (fun _ _ => rfl)) rfl)   (pss_one (ps_ret (pe_lst (pa_cons (pe_callB call_len_seq (by rfl) T.n_len PySem.boot_len (pa_cons (pe_callH G_counting (hr.mono (by decide)) (by rfl) (pa_cons (pv 0) pa_nil)) pa_nil)) pa_nil))))), ?_⟩)
  · obtain ⟨a, ae, s, pn, pm, ns, ms, rfl, _⟩ := h
    rfl
  · obtain ⟨a, ae, s, pn, pm, ns, ms, rfl, hL, g, hn, hm, hf, hl, k⟩ := h
    obtain ⟨n, rfl⟩ := len1 hl
    have b1 := fit6 (fits_n hf)
    rw [st6 b1] at k
    obtain ⟨dx, h1⟩ := hL.num
    refine q_fld (ev_num (j := 0) (ev_var rfl) hn rfl) (ev_var rfl) h1 T.clL T.nL3 (by show 4 < 1000; decide) fun H2 e2 => ?_
    have hL2 : LedAt A (upd H2 a (.ins A.cL dx (putF "horizon" (.int (n : Int)) (ledF s ae)))) a ae { s with horizon := some n } := (hL.mono e2).setF (s' := { s with horizon := some n }) (e2 _ _ h1) rfl
    have g2 : Good { s with horizon := some n } := ⟨g.len, g.ids, g.con, g.clock, g.late, g.arr⟩
    refine s_retP (evp_lst1 (ev_lenE (evp_counting rfl hL2 g2.len))) fun v H3 e3 ⟨p, ev, hp⟩ => ?_
    subst ev
    exact k p H3 _ _ rfl (((ExL.of e2).putA).andThen e3) (hL2.mono e3) g2 hp
abbrev s_clear_horizon : Stmt := top 40
theorem sc_clear_horizon : FnScope ["ledger", "numbers", "names"] ["ledger", "numbers", "names"] (defScope s_clear_horizon) := ⟨rfl, rfl, rfl, by decide +kernel, rfl, by decide +kernel, by decide +kernel⟩
theorem ok_clear_horizon (T : Txt K w mg A) (F : FunH K mg "clear_horizon" s_clear_horizon ["ledger", "numbers", "names"]) : Has P w K mg base 10 "clear_horizon" (spDeed K A 7) := by
  refine F.ok sc_clear_horizon (fun vs H Q E h => ?_) (fun f cdv Ar outer s H vs Q E hr h => ⟨_, (pss_cons (ps_fld (pv 0) (pe_gint (by rfl) T.g_NO_HORIZON) rfl)   (pss_one (ps_ret (pe_lst (pa_cons (pe_callB call_len_seq (by rfl) T.n_len PySem.boot_len (pa_cons (pe_fld (pv 0) (by rfl)) pa_nil)) pa_nil))))), ?_⟩)
  · obtain ⟨a, ae, s, pn, pm, ns, ms, rfl, _⟩ := h
    rfl
  · obtain ⟨a, ae, s, pn, pm, ns, ms, rfl, hL, g, hn, hm, hf, hl, k⟩ := h
    have := len0 hl
    subst this
    rw [st7] at k
    obtain ⟨dx, h1⟩ := hL.num
    refine q_fld ev_c (ev_var rfl) h1 T.clL T.nL3 (by show 4 < 1000; decide) fun H2 e2 => ?_
    have hL2 : LedAt A (upd H2 a (.ins A.cL dx (putF "horizon" (.int (-1)) (ledF s ae)))) a ae { s with horizon := none } := (hL.mono e2).setF (s' := { s with horizon := none }) (e2 _ _ h1) rfl
    have g2 : Good { s with horizon := none } := ⟨g.len, g.ids, g.con, g.clock, g.late, g.arr⟩
    obtain ⟨dx2, el, q1, q2, q3, q4⟩ := id hL2
    have hlen : (refs el).length = s.records.length := by
      rw [refs_len, ← List.length_map (f := (·.2)), q3]
    refine s_retP (evp_lst1 (ev_len (ev_fld (ev_var rfl) q1 T.clL T.nL4 rfl) (sq_of q2))) fun v H3 e3 ⟨p, ev, hp⟩ => ?_
    subst ev
    rw [hlen] at hp
    exact k p H3 _ _ rfl (((ExL.of e2).putA).andThen e3) (hL2.mono e3) g2 hp
end
end Late

/-! D14: counts, get_record, effective. -/
namespace Late
open PySem PySem.Spec PyProof.Rows L2 Evl
open Kex3 (Record Content Store effectiveAll Metric)
section
variable {P : Program} {w : World} {K : PySem.W.Frag} {mg : Str → Option Value} {base : Heap} {A : Adr}
variable {σ : L2.St} {H : Hp} {D : Ends} {tz : TS}
theorem ev_lenD {β : Type} {f : β → V} {te : TE} {n : Nat} (h : EvP te σ H fun v H' => ∃ (p : Addr) (d : List (Nat × β)), v = .ref p ∧ H' p = some (.dK (encD f d)) ∧ d.length = n) : Ev (tCB (fun xs H Q => ∃ a kvs, xs = [V.ref a] ∧ H a = some (.dK kvs) ∧ Q (.int kvs.length) H) (tCons te tNil)) σ H (.int (n : Int)) := fun H1 e Q q =>
  h H1 e _ fun v H2 e2 ⟨p, d, ev, hp, hl⟩ => ⟨p, _, by rw [ev], hp, by rw [encD_len, hl]; exact q H2 e2⟩
theorem effD_len {s : Store} (g : Good s) {d : List (Nat × (Addr × Content))} (h : EffD s (cnt s) d) : d.length = (effectiveAll s).length := by
  have h1 := (rowsOf_perm g h).length_eq
  have h2 := (all_perm s).length_eq
  unfold rowsOf at h1
  rw [List.length_map] at h1
  omega
/-! ### counts -/
abbrev s_counts : Stmt := top 41
theorem sc_counts : FnScope ["ledger", "numbers", "names", "some", "late", "retractions", "entry"] ["ledger", "numbers", "names"] (defScope s_counts) := ⟨rfl, rfl, rfl, by decide +kernel, rfl, by decide +kernel, by decide +kernel⟩
theorem q_lcE {α : Type} {i j : Nat} {p : Addr} {tt : TT} {vs : List Nat} {el : List (Addr × α)} (f : α → Bool) (hv : σ[i]? = some (some (.ref p))) (h : SqL K H p (refs el)) (hz : el.length ≤ 40000) (hw : ∀ x, wipe ((wipe σ vs).set j (some x)) vs = wipe σ vs) (hj : ∀ x, ((wipe σ vs).set j (some x))[j]? = some (some x))
    (turn : ∀ x ∈ el, ∀ H', Ex H H' → EvT tt ((wipe σ vs).set j (some (.ref x.1))) H' (f x.2)) : EvL (tLc (iList K (tVar i)) (gName j) tt (tVar j) vs) σ H (refs (el.filter fun x => f x.2)) :=
  el_lc (src := fun x : Addr × α => V.ref x.1) (fun x => f x.2) (fun x => V.ref x.1) (ev_var hv) h hz hw fun x hx H' e => ⟨turn x hx H' e, fun _ => ev_var (hj _)⟩
theorem filter_len {α : Type} (el : List (Addr × α)) (l : List α) (h : el.map (·.2) = l) (f : α → Bool) : (refs (el.filter fun x => f x.2)).length = (l.filter f).length := by
  rw [refs_len, ← h, ← snd_filter, List.length_map]
theorem ok_counts (T : Txt K w mg A) (F : FunH K mg "counts" s_counts ["ledger", "numbers", "names"]) (G_kind_of : Has P w K mg base 1 "kind_of" (spKind A)) (G_counting : Has P w K mg base 1 "counting" (spCounting A))
    (G_is_late : Has P w K mg base 2 "is_late" (spLate A)) (G_retracted_numbers : Has P w K mg base 2 "retracted_numbers" (spRetr A)) (G_effective_of : Has P w K mg base 3 "effective_of" (spEff A)) : Has P w K mg base 10 "counts" (spDeed K A 8) := by
  refine F.ok sc_counts (fun vs H Q E h => ?_) (fun f cdv Ar outer s H vs Q E hr h => ⟨_, (pss_cons (ps_set (i := 3) sc_counts.nd rfl (by first | exact Or.inl rfl | exact Or.inr rfl) (pe_callH G_counting (hr.mono (by decide)) (by rfl) (pa_cons (pv 0) pa_nil)))   (pss_cons (ps_setLc (i := 4) (own := [("entry", 6)]) (g := (gName 6)) (tt := (tB (tCall (spLate A) [] E0 (tCons (tVar 0) (tCons (tVar 6) tNil))))) (te := (tVar 6)) (by rfl) sc_counts.nd rfl rfl (sw_true rfl rfl rfl (by decide +kernel)) (pi_list (pv 3)) (blkOk_by (own := [("entry", 6)]) (N := ["ledger", "numbers", "names", "some", "late", "retractions", "entry"]) (sc := defScope s_counts) (by decide +kernel)) (fun _ _ _ _ _ => by exact (pg_name (i := 6) sc_counts.nd rfl (by first | exact Or.inl rfl | exact Or.inr rfl))) (fun _ _ _ _ _ => by exact pts_one (pt_val (pe_callH G_is_late (hr.mono (by decide)) (by rfl) (pa_cons (pv 0) (pa_cons (pv 6) pa_nil))))) (fun _ _ _ _ _ => by exact (pv 6)))   (pss_cons (ps_setLc (i := 5) (own := [("entry", 6)]) (g := (gName 6)) (tt := (tTest (tOp rEq (tCall (spKind A) [] E0 (tCons (tVar 6) tNil)) (tC (.int 2))))) (te := (tVar 6)) (by rfl) sc_counts.nd rfl rfl (sw_true rfl rfl rfl (by decide +kernel)) (pi_list (pv 3)) (blkOk_by (own := [("entry", 6)]) (N := ["ledger", "numbers", "names", "some", "late", "retractions", "entry"]) (sc := defScope s_counts) (by decide +kernel)) (fun _ _ _ _ _ => by exact (pg_name (i := 6) sc_counts.nd rfl (by first | exact Or.inl rfl | exact Or.inr rfl))) (fun _ _ _ _ _ => by exact pts_one (pt_cmpR op_eq (pe_callH G_kind_of (hr.mono (by decide)) (by rfl) (pa_cons (pv 6) pa_nil)) (pe_gint (by rfl) T.g_RETRACTION) (nomark _))) (fun _ _ _ _ _ => by exact (pv 6)))   (pss_one (ps_ret (pe_lst (pa_cons (pe_callB call_len_seq (by rfl) T.n_len PySem.boot_len (pa_cons (pv 3) pa_nil)) (pa_cons (pe_callB call_lenD (by rfl) T.n_len PySem.boot_len (pa_cons (pe_callH G_effective_of (hr.mono (by decide)) (by rfl) (pa_cons (pv 0) pa_nil)) pa_nil)) (pa_cons (pe_callB call_len_seq (by rfl) T.n_len PySem.boot_len (pa_cons (pv 4) pa_nil)) (pa_cons (pe_callB call_len_seq (by rfl) T.n_len PySem.boot_len (pa_cons (pv 5) pa_nil)) (pa_cons (pe_callB call_lenD (by rfl) T.n_len PySem.boot_len (pa_cons (pe_callH G_retracted_numbers (hr.mono (by decide)) (by rfl) (pa_cons (pv 0) pa_nil)) pa_nil)) pa_nil))))))))))), ?_⟩)
  · obtain ⟨a, ae, s, pn, pm, ns, ms, rfl, _⟩ := h
    rfl
  · obtain ⟨a, ae, s, pn, pm, ns, ms, rfl, hL, g, hn, hm, hf, hl, k⟩ := h
    have := len0 hl
    subst this
    rw [st8 g] at k
    have hg := g.len
    refine q_asgP (evp_counting rfl hL hg) fun v H1 e1 ⟨p, el, ev, h1, h2, h3⟩ => ?_
    subst ev
    have hlen : el.length ≤ 60 := by
      rw [← List.length_map (f := (·.2)), h2]
      exact cnt_le hg
    refine q_asgL (q_lcE (Kex3.isLate s) (i := 3) rfl (sq_of h1) (by omega) (fun _ => rfl) (fun _ => rfl) fun x hx H' e => et_B (ev_late rfl rfl (hL.mono (e1.trans e)) ((h3 x hx).mono e))) fun p2 H2 n2 e2 hp2 => ?_
    refine q_asgL (q_lcE (fun r => r.content.kind == 2) (i := 3) rfl (sq_of (e2 _ _ h1)) (by omega) (fun _ => rfl) (fun _ => rfl) fun x hx H' e => et_is (et_test (ev_op (ev_kind rfl ((h3 x hx).mono (e2.trans e))) ev_c (rv_eq rfl))) (by rw [show (2 : Int) = ((2 : Nat) : Int) from rfl, int_eq])) fun p3 H3 n3 e3 hp3 => ?_
    have e13 := (e1.trans e2).trans e3
    refine s_retP (evp_of (el_lst (ea_cons (ev_len (ev_var rfl) (sq_of ((e2.trans e3) _ _ h1))) (ea_cons (ev_lenD (f := aref) (n := (effectiveAll s).length) ((evp_eff rfl (hL.mono e13) hg).imp fun v H4 e4 ⟨q, d, ev, q1, q2, q3⟩ => ⟨q, d, ev, q1, effD_len g q2⟩))
      (ea_cons (ev_len (ev_var rfl) (sq_of (e3 _ _ hp2))) (ea_cons (ev_len (ev_var rfl) (sq_of hp3)) (ea_cons (ev_lenD (f := tru) (n := (retD (cnt s)).length) ((evp_retr rfl (hL.mono e13) hg).imp fun v H4 e4 ⟨q, ev, q1⟩ => ⟨q, _, ev, q1, rfl⟩)) ea_nil))))) (by show 5 ≤ 100000; decide))) fun v H4 e4 r => ?_
    have hr : RetP (ResL _) H Q := k.ro rfl hL g
    refine hr v H4 (e13.trans e4) ?_
    obtain ⟨q, ev, hq⟩ := r
    refine ⟨q, ev, ?_⟩
    rw [hq, filter_len el _ h2 (Kex3.isLate s), filter_len el _ h2 (fun r => r.content.kind == 2), refs_len, ← List.length_map (f := (·.2)), h2]
    rfl
/-! ### get_record -/
abbrev s_get_record : Stmt := top 42
theorem sc_get_record : FnScope ["ledger", "numbers", "names", "entry", "time", "unit", "kind", "first", "second"] ["ledger", "numbers", "names"] (defScope s_get_record) := ⟨rfl, rfl, rfl, by decide +kernel, rfl, by decide +kernel, by decide +kernel⟩
theorem q_tup5 {te : TE} {i j i3 i4 i5 : Nat} {p : Addr} {c : Content} (h : Ev te σ H (.ref p)) (hs : SqT K H p ((conI c).map V.int))
    (k : ∀ H1, Ex H H1 → tz D (((((σ.set i (some (.int (c.time : Int)))).set j (some (.int (c.unit : Int)))).set i3 (some (.int (c.kind : Int)))).set i4 (some (.int (c.first : Int)))).set i5 (some (.int (c.second : Int)))) H1) :
    tSeq (tAsg te (gTup K 5 (gCons (gName i) (gCons (gName j) (gCons (gName i3) (gCons (gName i4) (gCons (gName i5) gNil))))))) tz D σ H := h H (Ex.refl H) _ fun H1 e1 => ⟨p, _, rfl, ex_t e1 hs, rfl, _, _, rfl, _, _, rfl, _, _, rfl, _, _, rfl, _, _, rfl, rfl, k H1 e1⟩
theorem ok_get_record (T : Txt K w mg A) (F : FunH K mg "get_record" s_get_record ["ledger", "numbers", "names"]) : Has P w K mg base 10 "get_record" (spDeed K A 9) := by
  refine F.ok sc_get_record (fun vs H Q E h => ?_) (fun f cdv Ar outer s H vs Q E hr h => ⟨_, (pss_cons (ps_if (pt_cmpR op_ge (pe_ix ix_list (pv 1) pe_int (fun _ _ => rfl)) (pe_callB call_len_seq (by rfl) T.n_len PySem.boot_len (pa_cons (pe_fld (pv 0) (by rfl)) pa_nil)) (nomark _)) (pss_one (ps_ret (pe_lst (pa_cons (pe_un un_neg pe_int) pa_nil)))) pss_nil)   (pss_cons (ps_set (i := 3) sc_get_record.nd rfl (by first | exact Or.inl rfl | exact Or.inr rfl) (pe_ix ix_list (pe_fld (pv 0) (by rfl)) (pe_ix ix_list (pv 1) pe_int (fun _ _ => rfl)) (fun _ _ => rfl)))   (pss_cons (ps_asg (pe_fld (pv 3) (by rfl)) (pg_tup (by rfl) (pgs_cons (pg_name (i := 4) sc_get_record.nd rfl (by first | exact Or.inl rfl | exact Or.inr rfl)) (pgs_cons (pg_name (i := 5) sc_get_record.nd rfl (by first | exact Or.inl rfl | exact Or.inr rfl)) (pgs_cons (pg_name (i := 6) sc_get_record.nd rfl (by first | exact Or.inl rfl | exact Or.inr rfl)) (pgs_cons (pg_name (i := 7) sc_get_record.nd rfl (by first | exact Or.inl rfl | exact Or.inr rfl)) (pgs_cons (pg_name (i := 8) sc_get_record.nd rfl (by first | exact Or.inl rfl | exact Or.inr rfl)) pgs_nil)))))))   (pss_one (ps_ret (pe_lst (pa_cons (pe_fld (pv 3) (by rfl)) (pa_cons (pe_fld (pv 3) (by rfl)) (pa_cons (pv 6) (pa_cons (pv 5) (pa_cons (pv 7) (pa_cons (pv 8) (pa_cons (pv 4) pa_nil))))))))))))), ?_⟩)
  · obtain ⟨a, ae, s, pn, pm, ns, ms, rfl, _⟩ := h
    rfl
  · obtain ⟨a, ae, s, pn, pm, ns, ms, rfl, hL, g, hn, hm, hf, hl, k⟩ := h
    obtain ⟨n, rfl⟩ := len1 hl
    rw [st9] at k
    obtain ⟨dx, el, h1, h2, h3, h4⟩ := id hL
    have hlen : (refs el).length = s.records.length := by
      rw [refs_len, ← List.length_map (f := (·.2)), h3]
    refine q_when (et_test (ev_op (ev_num (j := 0) (ev_var rfl) hn rfl) (ev_len (ev_fld (ev_var rfl) h1 T.clL T.nL4 rfl) (sq_of h2)) rv_I0)) (fun hb H1 e1 => ?_) (fun hb H1 e1 => ?_)
    · have hb2 : s.records.length ≤ n := by
        have := of_decide_eq_true hb
        omega
      rw [List.getElem?_eq_none hb2] at k
      exact s_retP (evp_lst1 (ev_un ev_c ru_neg)) ((k.mono e1).ro rfl (hL.mono e1) g)
    · have hb2 : n < s.records.length := by
        have := of_decide_eq_false hb
        omega
      have hel : el.length = s.records.length := by rw [← hlen, refs_len]
      obtain ⟨y, hy⟩ : ∃ y, el[n]? = some y := ⟨el[n], List.getElem?_eq_getElem (by omega)⟩
      have hr2 := snd_at h3 hy
      rw [hr2] at k
      obtain ⟨dy, t, q1, q2⟩ := h4 y (mem_of_at hy)
      refine q_asg (ev_op (ev_fld (ev_var rfl) (e1 _ _ h1) T.clL T.nL4 rfl) (ev_num (j := 0) (ev_var rfl) (ex_l e1 hn) rfl) (rv_ixL (v := .ref y.1) (sq_of (e1 _ _ h2)) (atI_nat (by unfold refs; rw [List.getElem?_map, hy]; rfl)))) fun H2 e2 => ?_
      have e12 := e1.trans e2
      refine q_tup5 (c := y.2.content) (ev_fld (ev_var rfl) (e12 _ _ q1) T.clE T.nE3 rfl) (st_of (e12 _ _ q2)) fun H3 e3 => ?_
      have e13 := e12.trans e3
      exact s_retP (evp_of (el_lst (ea_cons (ev_fld (ev_var rfl) (e13 _ _ q1) T.clE T.nE1 rfl) (ea_cons (ev_fld (ev_var rfl) (e13 _ _ q1) T.clE T.nE2 rfl) (ea_cons (ev_var rfl) (ea_cons (ev_var rfl) (ea_cons (ev_var rfl) (ea_cons (ev_var rfl) (ea_cons (ev_var rfl) ea_nil))))))) (by show 7 ≤ 100000; decide)))
        ((k.mono e13).ro rfl (hL.mono e13) g)
/-! ### effective -/
abbrev s_effective : Stmt := top 43
theorem sc_effective : FnScope ["ledger", "numbers", "names", "known", "time", "unit", "kind", "first", "second"] ["ledger", "numbers", "names"] (defScope s_effective) := ⟨rfl, rfl, rfl, by decide +kernel, rfl, by decide +kernel, by decide +kernel⟩
theorem fit10 {i : Nat} (h : fitsN 10 [i] = true) : i ≤ 999 := by simpa [fitsN, codes, fitC, mostOf] using h
theorem ok_effective (T : Txt K w mg A) (F : FunH K mg "effective" s_effective ["ledger", "numbers", "names"]) (G_effective_of : Has P w K mg base 3 "effective_of" (spEff A)) : Has P w K mg base 10 "effective" (spDeed K A 10) := by
  refine F.ok sc_effective (fun vs H Q E h => ?_) (fun f cdv Ar outer s H vs Q E hr h => ⟨_, by have hu := hu_of hr; exact (pss_cons (ps_set (i := 3) sc_effective.nd rfl (by first | exact Or.inl rfl | exact Or.inr rfl) (pe_callH G_effective_of (hr.mono (by decide)) (by rfl) (pa_cons (pv 0) pa_nil)))   (pss_cons (ps_if (pt_cmp (pc_dnotin hu (pe_ix ix_list (pv 1) pe_int (fun _ _ => rfl)) (pv 3))) (pss_one (ps_ret (pe_lst (pa_cons (pe_un un_neg pe_int) pa_nil)))) pss_nil)   (pss_cons (ps_asg (pe_dget hu (pv 3) (pe_ix ix_list (pv 1) pe_int (fun _ _ => rfl)) (fun _ _ => rfl)) (pg_tup (by rfl) (pgs_cons (pg_name (i := 4) sc_effective.nd rfl (by first | exact Or.inl rfl | exact Or.inr rfl)) (pgs_cons (pg_name (i := 5) sc_effective.nd rfl (by first | exact Or.inl rfl | exact Or.inr rfl)) (pgs_cons (pg_name (i := 6) sc_effective.nd rfl (by first | exact Or.inl rfl | exact Or.inr rfl)) (pgs_cons (pg_name (i := 7) sc_effective.nd rfl (by first | exact Or.inl rfl | exact Or.inr rfl)) (pgs_cons (pg_name (i := 8) sc_effective.nd rfl (by first | exact Or.inl rfl | exact Or.inr rfl)) pgs_nil)))))))   (pss_one (ps_ret (pe_lst (pa_cons (pv 6) (pa_cons (pv 5) (pa_cons (pv 7) (pa_cons (pv 8) (pa_cons (pv 4) pa_nil))))))))))), ?_⟩)
  · obtain ⟨a, ae, s, pn, pm, ns, ms, rfl, _⟩ := h
    rfl
  · obtain ⟨a, ae, s, pn, pm, ns, ms, rfl, hL, g, hn, hm, hf, hl, k⟩ := h
    obtain ⟨n, rfl⟩ := len1 hl
    rw [st10 (fit10 (fits_n hf))] at k
    refine q_asgP (evp_eff rfl hL g.len) fun v H1 e1 ⟨p, d, ev, h1, h2, h3⟩ => ?_
    subst ev
    have hnum : ∀ {σ' : L2.St} H2, Ex H1 H2 → σ'[1]? = some (some (.ref pn)) → Ev (tOp (rIxL K) (tVar 1) (tC (.int 0))) σ' H2 (kV (natK n)) := fun H2 e hv => ev_num (j := 0) (ev_var hv) (ex_l (e1.trans e) hn) rfl
    refine q_when (et_B (ev_dnotin (k := natK n) (ev_var rfl) (hnum _ (Ex.refl _) rfl) (.inl h1))) (fun hb H2 e2 => ?_) (fun hb H2 e2 => ?_)
    · have hb2 : Kex3.effective s n = none := by
        cases q : Kex3.effective s n with
        | none => rfl
        | some c =>
          rw [← effAt_all] at q
          obtain ⟨x, hx⟩ := h2.some_of q
          rw [encD_get hx] at hb
          cases hb
      rw [hb2] at k
      exact s_retP (evp_lst1 (ev_un ev_c ru_neg)) ((k.mono (e1.trans e2)).ro rfl (hL.mono (e1.trans e2)) g)
    · obtain ⟨c, hc⟩ : ∃ c, Kex3.effective s n = some c := by
        cases q : Kex3.effective s n with
        | some c => exact ⟨c, rfl⟩
        | none =>
          rw [← effAt_all] at q
          rw [encD_none (h2.none_of q)] at hb
          cases hb
      rw [hc] at k
      rw [← effAt_all] at hc
      obtain ⟨x, hx⟩ := h2.some_of hc
      have ht := h3 _ (getN_mem hx)
      refine q_tup5 (c := c) (ev_dget (k := natK n) (ev_var rfl) (hnum _ e2 rfl) (.inl (e2 _ _ h1)) (encD_get hx)) (st_of (e2 _ _ ht)) fun H3 e3 => ?_
      have e13 := (e1.trans e2).trans e3
      exact s_retP (evp_of (el_lst (ea_cons (ev_var rfl) (ea_cons (ev_var rfl) (ea_cons (ev_var rfl) (ea_cons (ev_var rfl) (ea_cons (ev_var rfl) ea_nil))))) (by show 5 ≤ 100000; decide))) ((k.mono e13).ro rfl (hL.mono e13) g)
end
end Late

/-! D15: with_count, first_exposure, tell_participants, units_of_variant, conflicted, value. -/
namespace Late
open PySem PySem.Spec PyProof.Rows L2 Evl
open Kex3 (Record Content Store effectiveAll Metric)
theorem nI_V (l : List Nat) : (nI l).map V.int = natI l := by
  unfold nI natI
  rw [List.map_map]
  rfl
theorem keys_natI {β : Type} (f : β → V) (d : List (Nat × β)) : ((encD f d).map fun kv => kV kv.1) = natI (d.map (·.1)) := by
  unfold encD natI
  rw [List.map_map, List.map_map]
  rfl
section
variable {P : Program} {w : World} {K : PySem.W.Frag} {mg : Str → Option Value} {base : Heap} {A : Adr}
variable {σ : L2.St} {H : Hp} {D : Ends} {tz : TS}
theorem evp_if {b : Bool} {t : TT} {ta tb : TE} {Pr : V → Hp → Prop} (h : EvT t σ H b) (h1 : b = true → EvP ta σ H Pr) (h2 : b = false → EvP tb σ H Pr) : EvP (tIf t ta tb) σ H Pr := fun H1 e1 Q q => h H1 e1 _ fun H2 e2 => by
  cases b with
  | true => exact h1 rfl H2 (e1.trans e2) Q fun v H3 e3 p => q v H3 (e2.trans e3) p
  | false => exact h2 rfl H2 (e1.trans e2) Q fun v H3 e3 p => q v H3 (e2.trans e3) p
theorem evp_listT {te : TE} {p : Addr} {xs : List V} (ha : Ev te σ H (.ref p)) (h : SqT K H p xs) : EvP (tCB (rListS K) (tCons te tNil)) σ H (ResL xs) := evp_of fun H1 e Q q =>
  ha H1 e _ fun H2 e2 => ⟨p, xs, rfl, Or.inr (ex_t (e.trans e2) h), fun l hl => q l _ (fresh_back e2 hl) (e2.trans (Ex.new hl)) upd_same⟩
theorem evp_cat {ta tb : TE} {xs ys : List V} {q : Addr} (ha : EvL ta σ H xs) (hb : ∀ H1, Ex H H1 → Ev tb σ H1 (.ref q)) (hq : H q = some (.lst ys)) (hl : xs.length + ys.length ≤ 100000) : EvP (tOp rCat ta tb) σ H (ResL (xs ++ ys)) := fun H1 e1 Q k =>
  ha H1 e1 _ fun p H2 np e2 hp => hb H2 (e1.trans e2) H2 (Ex.refl _) _ fun H3 e3 => ⟨p, q, xs, ys, rfl, rfl, e3 _ _ hp, ((e1.trans e2).trans e3) _ _ hq, sz_of hl, fun r hr => k _ _ ((e2.trans e3).trans (Ex.new hr)) ⟨r, rfl, upd_same⟩⟩
/-! ### with_count -/
abbrev s_with_count : Stmt := top 32
theorem sc_with_count : FnScope ["row"] ["row"] (defScope s_with_count) := ⟨rfl, rfl, rfl, by decide +kernel, rfl, by decide +kernel, by decide +kernel⟩
def spWc : Sp := fun vs H Q _ => ∃ p xs, vs = [.ref p] ∧ H p = some (.lst xs) ∧ xs.length ≤ 90000 ∧ RetP (ResL (.int (xs.length : Int) :: xs)) H Q
theorem ok_with_count (T : Txt K w mg A) (F : FunH K mg "with_count" s_with_count ["row"]) : Has P w K mg base 1 "with_count" spWc := by
  refine F.ok sc_with_count (fun vs H Q E h => ?_) (fun f cdv Ar outer s H vs Q E hr h => ⟨_, (pss_one (ps_ret (pe_op op_cat (pe_lst (pa_cons (pe_callB call_len_seq (by rfl) T.n_len PySem.boot_len (pa_cons (pv 0) pa_nil)) pa_nil)) (pv 0)))), ?_⟩)
  · obtain ⟨p, xs, rfl, _⟩ := h
    rfl
  · obtain ⟨p, xs, rfl, hp, hl, k⟩ := h
    exact s_retP (evp_cat (el_lst (ea_cons (ev_len (ev_var rfl) (sq_of hp)) ea_nil) (by show 1 ≤ 100000; decide)) (fun H1 e => ev_var rfl) hp (by show 1 + xs.length ≤ 100000; omega)) k
theorem evp_wc {te : TE} {xs : List V} (h : EvP te σ H (ResL xs)) (hl : xs.length ≤ 90000) : EvP (tCall spWc [] E0 (tCons te tNil)) σ H (ResL (.int (xs.length : Int) :: xs)) := fun H1 e1 Q q =>
  h H1 e1 _ fun v H2 e2 ⟨p, ev, hp⟩ => ⟨p, xs, by rw [ev]; rfl, hp, hl, fun v' H3 e3 r => q v' H3 (e2.trans e3) r⟩
theorem natI_len2 (l : List Nat) : (natI l).length = l.length := by
  unfold natI
  rw [List.length_map]
theorem evp_wcN {te : TE} {l : List Nat} (h : EvP te σ H (ResL (natI l))) (hl : l.length ≤ 90000) : EvP (tCall spWc [] E0 (tCons te tNil)) σ H (ResL (((l.length : Int) :: nI l).map V.int)) := by
  have q := evp_wc h (by rw [natI_len2]; exact hl)
  rw [natI_len2] at q
  rw [List.map_cons, nI_V]
  exact q
/-! ### first_exposure -/
abbrev s_first_exposure : Stmt := top 44
theorem sc_first_exposure : FnScope ["ledger", "numbers", "names", "experiment", "unit", "told"] ["ledger", "numbers", "names"] (defScope s_first_exposure) := ⟨rfl, rfl, rfl, by decide +kernel, rfl, by decide +kernel, by decide +kernel⟩
theorem fit11 {x u : Nat} (h : fitsN 11 [x, u] = true) : x ≤ 7 ∧ u ≤ 99 := by simpa [fitsN, codes, fitC, mostOf] using h
theorem evp_partP {te tb : TE} {l : List Row} {x : Nat} (h : EvP te σ H (ResRows K l)) (hb : ∀ H1, Ex H H1 → Ev tb σ H1 (.int (x : Int))) (g : l.length ≤ 60) : EvP (tCall (spPart K) [] E0 (tCons te (tCons tb tNil))) σ H (ResTup K (toldI (partR l x))) := fun H1 e1 Q q =>
  h H1 e1 _ fun v H2 e2 ⟨p, ev, hr⟩ => (hb H2 (e1.trans e2)) H2 (Ex.refl _) _ fun H3 e3 => ⟨p, l, x, by rw [ev]; rfl, hr.mono e3, g, fun v H4 e4 r => q v H4 ((e2.trans e3).trans e4) r⟩
theorem unit_len {s : Store} (g : Good s) (u : Nat) : (ofU (effectiveAll s) u).length ≤ 60 := Nat.le_trans (ofU_len _ _) (raw_len g)
theorem ok_first_exposure (T : Txt K w mg A) (F : FunH K mg "first_exposure" s_first_exposure ["ledger", "numbers", "names"]) (G_participation : Has P w K mg base 2 "participation" (spPart K)) (G_unit_rows : Has P w K mg base 5 "unit_rows" (spUnit K A)) :
    Has P w K mg base 10 "first_exposure" (spDeed K A 11) := by
  refine F.ok sc_first_exposure (fun vs H Q E h => ?_) (fun f cdv Ar outer s H vs Q E hr h => ⟨_, (pss_cons (ps_asg (pv 1) (pg_unl (by rfl) (pgs_cons (pg_name (i := 3) sc_first_exposure.nd rfl (by first | exact Or.inl rfl | exact Or.inr rfl)) (pgs_cons (pg_name (i := 4) sc_first_exposure.nd rfl (by first | exact Or.inl rfl | exact Or.inr rfl)) pgs_nil))))   (pss_cons (ps_set (i := 5) sc_first_exposure.nd rfl (by first | exact Or.inl rfl | exact Or.inr rfl) (pe_callH G_participation (hr.mono (by decide)) (by rfl) (pa_cons (pe_callH G_unit_rows (hr.mono (by decide)) (by rfl) (pa_cons (pv 0) (pa_cons (pv 4) pa_nil))) (pa_cons (pv 3) pa_nil))))   (pss_cons (ps_if (pt_cmpR (op_eqD hr.units) (pv 5) (pe_gref (by rfl) T.g_CONFLICTED) (nomark _)) (pss_one (ps_ret (pe_lst (pa_cons (pe_un un_neg pe_int) pa_nil)))) pss_nil)   (pss_one (ps_ret (pe_ifExp (pt_cmpR (op_eqD hr.units) (pv 5) (pe_gref (by rfl) T.g_ABSENT) (nomark _)) (pe_lst (pa_cons (pe_un un_neg pe_int) pa_nil)) (pe_callTy call_list_of (by rfl) T.n_list (by decide +kernel) (pa_cons (pv 5) pa_nil)))))))), ?_⟩)
  · obtain ⟨a, ae, s, pn, pm, ns, ms, rfl, _⟩ := h
    rfl
  · obtain ⟨a, ae, s, pn, pm, ns, ms, rfl, hL, g, hn, hm, hf, hl, k⟩ := h
    obtain ⟨x, u, rfl⟩ := len2 hl
    obtain ⟨b1, b2⟩ := fit11 (fits_n hf)
    rw [st11 b1 b2] at k
    refine q_unl2 rfl hn ?_
    refine q_asgP (evp_partP (evp_unit (ev_var rfl) (ev_var rfl) hL g) (fun H1 e => ev_var rfl) (unit_len g u)) fun v H1 e1 ⟨p, ev, hp⟩ => ?_
    subst ev
    generalize partR (ofU (effectiveAll s) u) x = t at k hp
    refine q_when (et_is (et_test (ev_eqT (ms := [-2, -2]) (ev_var rfl) ev_c hp (T.tCo _) (toldI_two _) ⟨_, _, rfl⟩)) (told_co t)) (fun hb H2 e2 => ?_) (fun hb H2 e2 => ?_)
    · have hb2 : t = .conf := by simpa using hb
      subst hb2
      exact s_retP (evp_lst1 (ev_un ev_c ru_neg)) ((k.mono (e1.trans e2)).ro rfl (hL.mono (e1.trans e2)) g)
    · have e12 := e1.trans e2
      refine s_retP (P := ResL ((firstI t).map V.int)) (evp_if (et_is (et_test (ev_eqT (ms := [-1, -1]) (ev_var rfl) ev_c (ex_t e2 hp) (T.tAb _) (toldI_two _) ⟨_, _, rfl⟩)) (told_ab t)) (fun hc => ?_) fun hc => ?_) ((k.mono e12).ro rfl (hL.mono e12) g)
      · have hc2 : t = .absent := by simpa using hc
        subst hc2
        exact evp_lst1 (ev_un ev_c ru_neg)
      · cases t with
        | absent => simp at hc
        | conf => simp at hb
        | part v t => exact evp_listT (ev_var rfl) (ex_t e2 hp)
/-! ### tell_participants -/
abbrev s_tell_participants : Stmt := top 45
theorem sc_tell_participants : FnScope ["ledger", "numbers", "names"] ["ledger", "numbers", "names"] (defScope s_tell_participants) := ⟨rfl, rfl, rfl, by decide +kernel, rfl, by decide +kernel, by decide +kernel⟩
theorem fit12 {i : Nat} (h : fitsN 12 [i] = true) : i ≤ 7 := by simpa [fitsN, codes, fitC, mostOf] using h
theorem evp_keys {te : TE} {m : List (Nat × Told)} (h : EvP te σ H (ResTold K m)) : EvP (tCB (fun xs H Q => ∃ (a : Addr) (kvs : List (Key × V)), xs = [.ref a] ∧ Rd H a (.dK kvs) ∧ ∀ p, H p = none → Q (.ref p) (upd H p (.lst (kvs.map fun kv => kV kv.1)))) (tCons te tNil)) σ H (ResL (natI (m.map (·.1)))) := fun H1 e1 Q q =>
  h H1 e1 _ fun v H2 e2 ⟨p, d, ev, hp, hd, _⟩ => ⟨p, _, by rw [ev], .inl hp, fun r hr => q _ _ (e2.trans (Ex.new hr)) ⟨r, rfl, by rw [upd_same, keys_natI, ← hd, tells_keys]⟩⟩
theorem ok_tell_participants (T : Txt K w mg A) (F : FunH K mg "tell_participants" s_tell_participants ["ledger", "numbers", "names"]) (G_with_count : Has P w K mg base 1 "with_count" spWc) (G_participants : Has P w K mg base 7 "participants" (spParts K A)) :
    Has P w K mg base 10 "tell_participants" (spDeed K A 12) := by
  refine F.ok sc_tell_participants (fun vs H Q E h => ?_) (fun f cdv Ar outer s H vs Q E hr h => ⟨_, (pss_one (ps_ret (pe_callH G_with_count (hr.mono (by decide)) (by rfl) (pa_cons (pe_callTy (call_listD rfl) (by rfl) T.n_list (by decide +kernel) (pa_cons (pe_callH G_participants (hr.mono (by decide)) (by rfl) (pa_cons (pv 0) (pa_cons (pe_ix ix_list (pv 1) pe_int (fun _ _ => rfl)) pa_nil))) pa_nil)) pa_nil)))), ?_⟩)
  · obtain ⟨a, ae, s, pn, pm, ns, ms, rfl, _⟩ := h
    rfl
  · obtain ⟨a, ae, s, pn, pm, ns, ms, rfl, hL, g, hn, hm, hf, hl, k⟩ := h
    obtain ⟨x, rfl⟩ := len1 hl
    rw [st12 (fit12 (fits_n hf))] at k
    have hlen := parts_len (effectiveAll s) x
    refine s_retP (evp_wcN (l := (parts (effectiveAll s) x).map (·.1)) (evp_keys (evp_parts (ev_var rfl) (ev_num (j := 0) (ev_var rfl) hn rfl) hL g)) (by rw [List.length_map]; omega)) ?_
    rw [List.length_map]
    exact k.ro rfl hL g
/-! ### units_of_variant -/
abbrev s_units_of_variant : Stmt := top 46
theorem sc_units_of_variant : FnScope ["ledger", "numbers", "names", "experiment", "variant", "some", "unit"] ["ledger", "numbers", "names"] (defScope s_units_of_variant) := ⟨rfl, rfl, rfl, by decide +kernel, rfl, by decide +kernel, by decide +kernel⟩
theorem fit13 {x v : Nat} (h : fitsN 13 [x, v] = true) : x ≤ 7 ∧ v ≤ 3 := by simpa [fitsN, codes, fitC, mostOf] using h
theorem out_natI {β : Type} (d : List (Nat × β)) : (d.map fun x => V.int (x.1 : Int)) = natI (d.map (·.1)) := by
  unfold natI
  rw [List.map_map]
  rfl
theorem tells_fst (d : List (Nat × (Addr × Told))) (q : Told → Bool) : (d.filter fun x => q x.2.2).map (·.1) = ((tells d).filter fun x => q x.2).map (·.1) := by
  rw [← tells_filter, tells_keys]
theorem ok_units_of_variant (T : Txt K w mg A) (F : FunH K mg "units_of_variant" s_units_of_variant ["ledger", "numbers", "names"]) (G_with_count : Has P w K mg base 1 "with_count" spWc) (G_participants : Has P w K mg base 7 "participants" (spParts K A)) :
    Has P w K mg base 10 "units_of_variant" (spDeed K A 13) := by
  refine F.ok sc_units_of_variant (fun vs H Q E h => ?_) (fun f cdv Ar outer s H vs Q E hr h => ⟨_, by have hu := hu_of hr; exact (pss_cons (ps_asg (pv 1) (pg_unl (by rfl) (pgs_cons (pg_name (i := 3) sc_units_of_variant.nd rfl (by first | exact Or.inl rfl | exact Or.inr rfl)) (pgs_cons (pg_name (i := 4) sc_units_of_variant.nd rfl (by first | exact Or.inl rfl | exact Or.inr rfl)) pgs_nil))))   (pss_cons (ps_set (i := 5) sc_units_of_variant.nd rfl (by first | exact Or.inl rfl | exact Or.inr rfl) (pe_callH G_participants (hr.mono (by decide)) (by rfl) (pa_cons (pv 0) (pa_cons (pv 3) pa_nil))))   (pss_one (ps_ret (pe_callH G_with_count (hr.mono (by decide)) (by rfl) (pa_cons (pe_lock <| pe_lc (own := [("unit", 6)]) (g := (gName 6)) (tt := (tTest (tOp rEq (tOp (rIxT K) (tDGet (tVar 5) (tVar 6)) (tC (.int 0))) (tVar 4)))) (te := (tVar 6)) (by rfl) sc_units_of_variant.nd (pi_keys (pv 5)) (blkOk_by (own := [("unit", 6)]) (N := ["ledger", "numbers", "names", "experiment", "variant", "some", "unit"]) (sc := defScope s_units_of_variant) (by decide +kernel)) (fun _ _ _ _ _ => by exact (pg_name (i := 6) sc_units_of_variant.nd rfl (by first | exact Or.inl rfl | exact Or.inr rfl))) (fun _ _ _ _ _ => by exact pts_one (pt_cmpR op_eq (pe_ix ix_tup (pe_dget hu (pv 5) (pv 6) (fun _ _ => rfl)) pe_int (fun _ _ => rfl)) (pv 4) (nomark _))) (fun _ _ _ _ _ => by exact (pv 6))) pa_nil)))))), ?_⟩)
  · obtain ⟨a, ae, s, pn, pm, ns, ms, rfl, _⟩ := h
    rfl
  · obtain ⟨a, ae, s, pn, pm, ns, ms, rfl, hL, g, hn, hm, hf, hl, k⟩ := h
    obtain ⟨x, v, rfl⟩ := len2 hl
    obtain ⟨b1, b2⟩ := fit13 (fits_n hf)
    rw [st13 b1 b2] at k
    refine q_unl2 rfl hn ?_
    refine q_asgP (evp_parts (ev_var rfl) (ev_var rfl) hL g) fun v1 H1 e1 ⟨ps, d, ev, s1, s2, s3⟩ => ?_
    subst ev
    have hL1 := hL.mono e1
    have k1 := k.mono e1
    have hv := vu_len (effectiveAll s) x v
    have dlen : d.length ≤ 100 := by
      rw [← tells_len, s2]
      exact parts_len (effectiveAll s) x
    have dnd : (d.map (·.1)).Nodup := tells_nd s2 (parts_nd (effectiveAll s) x)
    have hvu : (vu (effectiveAll s) x v).map (·.1) = (d.filter fun y => isVar v y.2.2).map (·.1) := by
      rw [tells_fst, s2]
      rfl
    refine s_retP (evp_wcN (l := (d.filter fun y => isVar v y.2.2).map (·.1)) ?_ (by rw [← hvu, List.length_map]; omega)) ?_
    · rw [← out_natI]
      refine evp_lcKV (f := tref) (d := d) (fun y => isVar v y.2.2) (fun y => V.int (y.1 : Int)) (i := 5) rfl s1 (by omega) (fun _ => rfl) fun y hy H' e r => ⟨?_, fun _ => ev_var rfl⟩
      have hv : valV (encD tref d) (natK y.1) = some (.ref y.2.1) := encD_get (mem_getN (v := y.2) dnd hy)
      have ht : SqT K H' y.2.1 ((toldI y.2.2).map V.int) := keep_t s1 e (s3 y hy)
      obtain ⟨vv, tt, hy2, hpart, hmem⟩ := parts_mem (l := effectiveAll s) (e := x) (x := (y.1, y.2.2)) (by rw [← s2]; exact List.mem_map.mpr ⟨y, hy, rfl⟩)
      have hy3 : y.2.2 = .part vv tt := (Prod.mk.inj hy2).2
      rw [hy3] at ht ⊢
      exact et_is (et_test (ev_op (ev_op (ev_dget (k := natK y.1) (ev_var rfl) (ev_var rfl) r hv) ev_c (rv_ixT ht (atI_nat (j := 0) rfl))) (ev_var rfl) (rv_eq rfl))) (eqb _ _)
    · rw [← hvu, List.length_map]
      exact k1.ro rfl hL1 g
/-! ### conflicted -/
abbrev s_conflicted : Stmt := top 47
theorem sc_conflicted : FnScope ["ledger", "numbers", "names", "some", "unit"] ["ledger", "numbers", "names"] (defScope s_conflicted) := ⟨rfl, rfl, rfl, by decide +kernel, rfl, by decide +kernel, by decide +kernel⟩
theorem fit14 {i : Nat} (h : fitsN 14 [i] = true) : i ≤ 7 := by simpa [fitsN, codes, fitC, mostOf] using h
theorem ok_conflicted (T : Txt K w mg A) (F : FunH K mg "conflicted" s_conflicted ["ledger", "numbers", "names"]) (G_with_count : Has P w K mg base 1 "with_count" spWc) (G_standings : Has P w K mg base 6 "standings" (spStand K A)) :
    Has P w K mg base 10 "conflicted" (spDeed K A 14) := by
  refine F.ok sc_conflicted (fun vs H Q E h => ?_) (fun f cdv Ar outer s H vs Q E hr h => ⟨_, by have hu := hu_of hr; exact (pss_cons (ps_set (i := 3) sc_conflicted.nd rfl (by first | exact Or.inl rfl | exact Or.inr rfl) (pe_callH G_standings (hr.mono (by decide)) (by rfl) (pa_cons (pv 0) (pa_cons (pe_ix ix_list (pv 1) pe_int (fun _ _ => rfl)) pa_nil))))   (pss_one (ps_ret (pe_callH G_with_count (hr.mono (by decide)) (by rfl) (pa_cons (pe_lock <| pe_lc (own := [("unit", 4)]) (g := (gName 4)) (tt := (tTest (tOp (rEqD K) (tDGet (tVar 3) (tVar 4)) (tC (.ref A.co))))) (te := (tVar 4)) (by rfl) sc_conflicted.nd (pi_keys (pv 3)) (blkOk_by (own := [("unit", 4)]) (N := ["ledger", "numbers", "names", "some", "unit"]) (sc := defScope s_conflicted) (by decide +kernel)) (fun _ _ _ _ _ => by exact (pg_name (i := 4) sc_conflicted.nd rfl (by first | exact Or.inl rfl | exact Or.inr rfl))) (fun _ _ _ _ _ => by exact pts_one (pt_cmpR (op_eqD hr.units) (pe_dget hu (pv 3) (pv 4) (fun _ _ => rfl)) (pe_gref (by rfl) T.g_CONFLICTED) (nomark _))) (fun _ _ _ _ _ => by exact (pv 4))) pa_nil))))), ?_⟩)
  · obtain ⟨a, ae, s, pn, pm, ns, ms, rfl, _⟩ := h
    rfl
  · obtain ⟨a, ae, s, pn, pm, ns, ms, rfl, hL, g, hn, hm, hf, hl, k⟩ := h
    obtain ⟨x, rfl⟩ := len1 hl
    rw [st14 (fit14 (fits_n hf))] at k
    refine q_asgP (evp_stand (ev_var rfl) (ev_num (j := 0) (ev_var rfl) hn rfl) hL g) fun v1 H1 e1 ⟨ps, d, ev, s1, s2, s3⟩ => ?_
    subst ev
    have hL1 := hL.mono e1
    have k1 := k.mono e1
    have dlen : d.length ≤ 100 := by
      rw [← tells_len, s2]
      exact stand_len (effectiveAll s) x
    have dnd : (d.map (·.1)).Nodup := tells_nd s2 (stand_nd (effectiveAll s) x _ units_nd)
    have hvu : (confs (effectiveAll s) x).map (·.1) = (d.filter fun y => y.2.2 == .conf).map (·.1) := by
      rw [tells_fst d fun t => t == .conf, s2]
      rfl
    have hcl : (confs (effectiveAll s) x).length ≤ 100 := by
      rw [← List.length_map (f := (·.1)), hvu, List.length_map]
      exact Nat.le_trans (List.length_filter_le _ _) dlen
    refine s_retP (evp_wcN (l := (d.filter fun y => y.2.2 == .conf).map (·.1)) ?_ (by rw [← hvu, List.length_map]; omega)) ?_
    · rw [← out_natI]
      refine evp_lcKV (f := tref) (d := d) (fun y => y.2.2 == .conf) (fun y => V.int (y.1 : Int)) (i := 3) rfl s1 (by omega) (fun _ => rfl) fun y hy H' e r => ⟨?_, fun _ => ev_var rfl⟩
      have hv : valV (encD tref d) (natK y.1) = some (.ref y.2.1) := encD_get (mem_getN (v := y.2) dnd hy)
      have ht : SqT K H' y.2.1 ((toldI y.2.2).map V.int) := keep_t s1 e (s3 y hy)
      exact et_is (et_test (ev_eqT (ms := [-2, -2]) (ev_dget (k := natK y.1) (ev_var rfl) (ev_var rfl) r hv) ev_c ht (T.tCo _) (toldI_two _) ⟨_, _, rfl⟩)) (told_co y.2.2)
    · rw [← hvu, List.length_map]
      exact k1.ro rfl hL1 g
/-! ### value -/
abbrev s_value : Stmt := top 48
theorem sc_value : FnScope ["ledger", "numbers", "names", "rows", "told"] ["ledger", "numbers", "names"] (defScope s_value) := ⟨rfl, rfl, rfl, by decide +kernel, rfl, by decide +kernel, by decide +kernel⟩
theorem fit15 {x u y e c d : Nat} (h : fitsN 15 [x, u, y, e, c, d] = true) : x ≤ 7 ∧ u ≤ 99 ∧ y ≤ 2 ∧ e ≤ 9 ∧ c ≤ 100000 ∧ 1 ≤ d ∧ d ≤ 100000 := by
  have := h
  simp [fitsN, codes, fitC, mostOf] at this
  omega
theorem ev_metric {ta tb tc : TE} {a : Addr} {l : List Row} {t : Nat} {m : Metric} (ha : Ev ta σ H (.ref a)) (hb : Ev tb σ H (.int (t : Int))) (hc : EvL tc σ H (metI m)) (hR : RowsL K H a l) (g : l.length ≤ 60) :
    Ev (tCall (spMetric K) [] E0 (tCons ta (tCons tb (tCons tc tNil)))) σ H (.int (metricR l t m : Int)) := fun H1 e1 Q q =>
  ha H1 e1 _ fun H2 e2 => hb H2 (e1.trans e2) _ fun H3 e3 => hc H3 ((e1.trans e2).trans e3) _ fun p H4 np e4 hp => ⟨a, l, t, p, m, rfl, hR.mono (((e1.trans e2).trans e3).trans e4), g, sq_of hp, fun v H5 e5 ev => by
    rw [ev]
    exact q H5 (((e2.trans e3).trans e4).trans e5)⟩
theorem el_metI {i : Nat} {p : Addr} {x v y e c d : Nat} (hv : σ[i]? = some (some (.ref p))) (h : SqL K H p (natI [x, v, y, e, c, d])) : EvL (tSl (rSlL K) (tVar i) (tPart (tC (.int 2))) tNoPart) σ H (metI ⟨y, e, c, d⟩) :=
  el_sl (xs := natI [x, v, y, e, c, d]) (lo := some 2) (hi := none) (ev_var hv) (eo_some ev_c) eo_none h
theorem ok_value (T : Txt K w mg A) (F : FunH K mg "value" s_value ["ledger", "numbers", "names"]) (G_participation : Has P w K mg base 2 "participation" (spPart K)) (G_unit_rows : Has P w K mg base 5 "unit_rows" (spUnit K A)) (G_metric_value : Has P w K mg base 2 "metric_value" (spMetric K)) :
    Has P w K mg base 10 "value" (spDeed K A 15) := by
  refine F.ok sc_value (fun vs H Q E h => ?_) (fun f cdv Ar outer s H vs Q E hr h => ⟨_, (pss_cons (ps_set (i := 3) sc_value.nd rfl (by first | exact Or.inl rfl | exact Or.inr rfl) (pe_callH G_unit_rows (hr.mono (by decide)) (by rfl) (pa_cons (pv 0) (pa_cons (pe_ix ix_list (pv 1) pe_int (fun _ _ => rfl)) pa_nil))))   (pss_cons (ps_set (i := 4) sc_value.nd rfl (by first | exact Or.inl rfl | exact Or.inr rfl) (pe_callH G_participation (hr.mono (by decide)) (by rfl) (pa_cons (pv 3) (pa_cons (pe_ix ix_list (pv 1) pe_int (fun _ _ => rfl)) pa_nil))))   (pss_cons (ps_if (PW.pt (pw_or (pt_cmpR (op_eqD hr.units) (pv 4) (pe_gref (by rfl) T.g_CONFLICTED) (nomark _)) (pw_or1 (pt_cmpR (op_eqD hr.units) (pv 4) (pe_gref (by rfl) T.g_ABSENT) (nomark _))))) (pss_one (ps_ret (pe_lst (pa_cons (pe_un un_neg pe_int) pa_nil)))) pss_nil)   (pss_one (ps_ret (pe_lst (pa_cons (pe_callH G_metric_value (hr.mono (by decide)) (by rfl) (pa_cons (pv 3) (pa_cons (pe_ix ix_tup (pv 4) pe_int (fun _ _ => rfl)) (pa_cons (pe_slice sl_list (pv 1) (po_some pe_int) po_none) pa_nil)))) pa_nil))))))), ?_⟩)
  · obtain ⟨a, ae, s, pn, pm, ns, ms, rfl, _⟩ := h
    rfl
  · obtain ⟨a, ae, s, pn, pm, ns, ms, rfl, hL, g, hn, hm, hf, hl, k⟩ := h
    obtain ⟨x, u, y, e, c, d, rfl⟩ := len6 hl
    obtain ⟨b1, b2, b3, b4, b5, b6, b7⟩ := fit15 (fits_n hf)
    rw [st15 b1 b2 b3 b4 b5 b6 b7] at k
    refine q_asgP (evp_unit (ev_var rfl) (ev_num (j := 1) (ev_var rfl) hn rfl) hL g) fun v0 H1 e1 ⟨pr, ev, hr⟩ => ?_
    subst ev
    refine q_asgP (evp_part (ev_var rfl) (ev_num (j := 0) (ev_var rfl) (ex_l e1 hn) rfl) hr (unit_len g u)) fun v H2 e2 ⟨p, ev, hp⟩ => ?_
    subst ev
    have e12 := e1.trans e2
    have hul := unit_len g u
    generalize ofU (effectiveAll s) u = l at k hp hr hul
    generalize partR l x = t at k hp
    refine q_when (et_or (et_is (et_test (ev_eqT (ms := [-2, -2]) (ev_var rfl) ev_c hp (T.tCo _) (toldI_two _) ⟨_, _, rfl⟩)) (told_co t)) fun _ => (et_is (et_test (ev_eqT (ms := [-1, -1]) (ev_var rfl) ev_c hp (T.tAb _) (toldI_two _) ⟨_, _, rfl⟩)) (told_ab t))) (fun hb H3 e3 => ?_) (fun hb H3 e3 => ?_)
    · have hk : DeedK A a ae (some s, [-33]) H Q := by
        cases t with
        | part v t => cases hb
        | absent => exact k
        | conf => exact k
      exact s_retP (evp_lst1 (ev_un ev_c ru_neg)) ((hk.mono (e12.trans e3)).ro rfl (hL.mono (e12.trans e3)) g)
    · cases t with
      | absent => cases hb
      | conf => cases hb
      | part v t =>
        exact s_retP (evp_lst1 (ev_metric (m := ⟨y, e, c, d⟩) (ev_var rfl) (ev_op (ev_var rfl) ev_c (rv_ixT (ex_t e3 hp) (atI_nat (j := 1) rfl))) (el_metI rfl (ex_l (e12.trans e3) hn)) (hr.mono (e2.trans e3)) hul)) ((k.mono (e12.trans e3)).ro rfl (hL.mono (e12.trans e3)) g)
end
end Late

/-! D16: sessions, timeline, shared, cross_counts, summary. -/
namespace Late
open PySem PySem.Spec PyProof.Rows L2 Evl
open Kex3 (Record Content Store effectiveAll Metric)
theorem maxL_ge : ∀ (l : List Nat) (b : Nat), b ≤ l.foldl max b ∧ ∀ x ∈ l, x ≤ l.foldl max b
  | [], b => ⟨Nat.le_refl _, fun x h => absurd h (by simp)⟩
  | y :: l, b => by
    obtain ⟨h1, h2⟩ := maxL_ge l (max b y)
    rw [List.foldl_cons]
    refine ⟨by omega, fun x hx => ?_⟩
    rcases List.mem_cons.mp hx with e | m
    · rw [e]
      omega
    · exact h2 x m
theorem maxL_in : ∀ (l : List Nat) (b : Nat), l.foldl max b = b ∨ l.foldl max b ∈ l
  | [], b => .inl rfl
  | y :: l, b => by
    rw [List.foldl_cons]
    rcases maxL_in l (max b y) with h | h
    · rw [h]
      by_cases q : b ≤ y
      · exact .inr (by rw [Nat.max_eq_right q]; exact List.mem_cons_self)
      · exact .inl (Nat.max_eq_left (by omega))
    · exact .inr (List.mem_cons_of_mem _ h)
section
variable {P : Program} {w : World} {K : PySem.W.Frag} {mg : Str → Option Value} {base : Heap} {A : Adr}
variable {σ : L2.St} {H : Hp} {D : Ends} {tz : TS}
/-! ### sessions -/
theorem ev_maxDef {ta : TE} {p : Addr} {l : List Nat} (ha : Ev ta σ H (.ref p)) (h : SqL K H p (natI l)) : Ev (tCKw (rMaxDef K) (tCons ta tNil) (tCons (tC (.int 0)) tNil)) σ H (.int (maxL l : Int)) := fun H1 e1 Q q =>
  ha H1 e1 _ fun H2 e2 => ⟨p, nI l, 0, rfl, rfl, by rw [nI_V]; exact ex_l (e1.trans e2) h, fun hn => by
    have : l = [] := List.map_eq_nil_iff.mp hn
    rw [this] at q
    exact q H2 e2, fun m hm hmax => by
    unfold nI at hm
    obtain ⟨n, hn, rfl⟩ := List.mem_map.mp hm
    have h1 := (maxL_ge l 0).2 n hn
    have h2 : maxL l ≤ n := by
      rcases maxL_in l 0 with c | c
      · unfold maxL
        omega
      · have := hmax (maxL l : Int) (List.mem_map.mpr ⟨_, c, rfl⟩)
        omega
    have e : n = maxL l := Nat.le_antisymm h1 h2
    rw [e]
    exact q H2 e2⟩
abbrev s_sessions : Stmt := top 52
theorem sc_sessions : FnScope ["ledger", "numbers", "names", "sizes"] ["ledger", "numbers", "names"] (defScope s_sessions) := ⟨rfl, rfl, rfl, by decide +kernel, rfl, by decide +kernel, by decide +kernel⟩
theorem fit19 {u g : Nat} (h : fitsN 19 [u, g] = true) : u ≤ 99 ∧ g ≤ 100000 := by simpa [fitsN, codes, fitC, mostOf] using h
theorem ok_sessions (T : Txt K w mg A) (F : FunH K mg "sessions" s_sessions ["ledger", "numbers", "names"]) (G_session_sizes : Has P w K mg base 1 "session_sizes" (spSizes K)) (G_unit_rows : Has P w K mg base 5 "unit_rows" (spUnit K A)) :
    Has P w K mg base 10 "sessions" (spDeed K A 19) := by
  refine F.ok sc_sessions (fun vs H Q E h => ?_) (fun f cdv Ar outer s H vs Q E hr h => ⟨_, (pss_cons (ps_set (i := 3) sc_sessions.nd rfl (by first | exact Or.inl rfl | exact Or.inr rfl) (pe_callH G_session_sizes (hr.mono (by decide)) (by rfl) (pa_cons (pe_callH G_unit_rows (hr.mono (by decide)) (by rfl) (pa_cons (pv 0) (pa_cons (pe_ix ix_list (pv 1) pe_int (fun _ _ => rfl)) pa_nil))) (pa_cons (pe_ix ix_list (pv 1) pe_int (fun _ _ => rfl)) pa_nil))))   (pss_one (ps_ret (pe_lst (pa_cons (pe_callB call_len_seq (by rfl) T.n_len PySem.boot_len (pa_cons (pv 3) pa_nil)) (pa_cons (pe_callBK (call_maxDef rfl) (by rfl) T.n_max (by decide +kernel) (pa_cons (pv 3) pa_nil) (pk_cons pe_int pk_nil)) pa_nil)))))), ?_⟩)
  · obtain ⟨a, ae, s, pn, pm, ns, ms, rfl, _⟩ := h
    rfl
  · obtain ⟨a, ae, s, pn, pm, ns, ms, rfl, hL, g, hn, hm, hf, hl, k⟩ := h
    obtain ⟨u, gap, rfl⟩ := len2 hl
    obtain ⟨b1, b2⟩ := fit19 (fits_n hf)
    rw [st19 b1 b2] at k
    refine q_asgP (evp_sizes (evp_unit (ev_var rfl) (ev_num (j := 0) (ev_var rfl) hn rfl) hL g) (fun H1 e => ev_num (j := 1) (ev_var rfl) (ex_l e hn) rfl) (unit_len g u)) fun v H1 e1 ⟨p, ev, hp⟩ => ?_
    subst ev
    generalize sizesR (ofU (effectiveAll s) u) gap = l at k hp
    have h1 := evp_of (el_lst (ea_cons (ev_len (K := K) (σ := [some (.ref a), some (.ref pn), some (.ref pm), some (.ref p)]) (ev_var (i := 3) rfl) (sq_of hp)) (ea_cons (ev_maxDef (K := K) (ev_var (i := 3) rfl) (sq_of hp)) ea_nil)) (by show 2 ≤ 100000; decide))
    rw [natI_len2] at h1
    exact s_retP h1 ((k.mono e1).ro rfl (hL.mono e1) g)
/-! ### timeline -/
theorem s_ext {ta te : TE} {l : Addr} {xs ys : List V} (hl : H l = some (.lst xs)) (ha : Ev ta σ H (.ref l)) (h : EvP te σ H (ResL ys)) (hz : xs.length + ys.length ≤ sizeLine) (k : ∀ H1, Ex H H1 → D.nx σ (upd H1 l (.lst (xs ++ ys)))) :
    tDrop (tBM K "list" rExtend ta (tCons te tNil)) D σ H := ha H (Ex.refl H) _ fun H1 e1 =>
  ⟨Or.inl ⟨rfl, xs, sq_of (e1 l _ hl)⟩, h H1 e1 _ fun v H2 e2 ⟨p, ev, hp⟩ => ⟨l, p, xs, ys, rfl, by rw [ev], e2 l _ (e1 l _ hl), hp, hz, k H2 (e1.trans e2)⟩⟩
abbrev s_timeline : Stmt := top 53
theorem sc_timeline : FnScope ["ledger", "numbers", "names", "rows", "found", "row"] ["ledger", "numbers", "names"] (defScope s_timeline) := ⟨rfl, rfl, rfl, by decide +kernel, rfl, by decide +kernel, by decide +kernel⟩
theorem fit20 {i : Nat} (h : fitsN 20 [i] = true) : i ≤ 99 := by simpa [fitsN, codes, fitC, mostOf] using h
theorem lineI_snoc (l : List Row) (z : Row) : lineI (l ++ [z]) = lineI l ++ [z.2, z.1.time, z.1.kind] := by
  unfold lineI
  rw [List.flatMap_append]
  rfl
theorem lineI_len (l : List Row) : (lineI l).length = 3 * l.length := by
  unfold lineI
  rw [List.length_flatMap]
  induction l with
  | nil => rfl
  | cons z r ih =>
    rw [List.map_cons, List.sum_cons, ih, List.length_cons]
    simp
    omega
theorem natI_app (l m : List Nat) : natI (l ++ m) = natI l ++ natI m := by
  unfold natI
  rw [List.map_append]
theorem ok_timeline (T : Txt K w mg A) (F : FunH K mg "timeline" s_timeline ["ledger", "numbers", "names"]) (G_unit_rows : Has P w K mg base 5 "unit_rows" (spUnit K A)) :
    Has P w K mg base 10 "timeline" (spDeed K A 20) := by
  refine F.ok sc_timeline (fun vs H Q E h => ?_) (fun f cdv Ar outer s H vs Q E hr h => ⟨_, (pss_cons (ps_set (i := 3) sc_timeline.nd rfl (by first | exact Or.inl rfl | exact Or.inr rfl) (pe_callH G_unit_rows (hr.mono (by decide)) (by rfl) (pa_cons (pv 0) (pa_cons (pe_ix ix_list (pv 1) pe_int (fun _ _ => rfl)) pa_nil))))   (pss_cons (ps_set (i := 4) sc_timeline.nd rfl (by first | exact Or.inl rfl | exact Or.inr rfl) (pe_lst (pa_cons (pe_callB call_len_seq (by rfl) T.n_len PySem.boot_len (pa_cons (pv 3) pa_nil)) pa_nil)))   (pss_cons (ps_for PassesOwn.never rfl (pi_list (pv 3)) (pg_name (i := 5) sc_timeline.nd rfl (by first | exact Or.inl rfl | exact Or.inr rfl)) (pss_one (ps_expr (pe_bm PySem.F.plainAttrs_list PySem.F.slot_list_extend PySem.F.type_list_extend mt_extend (pv 4) (pa_cons (pe_lst (pa_cons (pe_ix ix_tup (pv 5) pe_int (fun _ _ => rfl)) (pa_cons (pe_ix ix_tup (pv 5) pe_int (fun _ _ => rfl)) (pa_cons (pe_ix ix_tup (pv 5) pe_int (fun _ _ => rfl)) pa_nil)))) pa_nil)))))   (pss_one (ps_ret (pv 4)))))), ?_⟩)
  · obtain ⟨a, ae, s, pn, pm, ns, ms, rfl, _⟩ := h
    rfl
  · obtain ⟨a, ae, s, pn, pm, ns, ms, rfl, hL, g, hn, hm, hf, hl, k⟩ := h
    obtain ⟨u, rfl⟩ := len1 hl
    rw [st20 (fit20 (fits_n hf))] at k
    refine q_asgP (evp_unit (ev_var rfl) (ev_num (j := 0) (ev_var rfl) hn rfl) hL g) fun v H1 e1 ⟨p, ev, tl, h1, h2, h3⟩ => ?_
    subst ev
    have hul := unit_len g u
    generalize ofU (effectiveAll s) u = l at k h1 hul
    have htl : (refs tl).length = l.length := by rw [refs_len, ← h1, List.length_map]
    refine q_asgL (el_lst (ea_cons (ev_len (ev_var rfl) h2) ea_nil) (by show 1 ≤ 100000; decide)) fun fd H2 nf e2 hf2 => ?_
    refine ⟨_, rfl, p, rfl, ⟨_, ex_l e2 h2⟩, for_listN (fun i σ' H' => ∃ y, σ' = [some (.ref a), some (.ref pn), some (.ref pm), some (.ref p), some (.ref fd), y] ∧ Ex H1 H' ∧ H' fd = some (.lst (.int (l.length : Int) :: natI (lineI (l.take i)))))
      ⟨_, rfl, e2, by rw [hf2, htl]; rfl⟩ (fun i σ' H' _ q => ex_l q.choose_spec.2.1 h2) ?_ ?_⟩
    · rintro i x σ' H' hx ⟨y, rfl, w1, w2⟩
      obtain ⟨z, hz, rfl⟩ := ref_at hx
      have hr2 := snd_at h1 hz
      have ht := ex_t w1 (h3 z (mem_of_at hz))
      refine s_ext w2 (ev_var rfl) (evp_of (el_lst (ea_cons (ev_ix (j := 5) (ev_var rfl) ht rfl) (ea_cons (ev_ix (j := 0) (ev_var rfl) ht rfl) (ea_cons (ev_ix (j := 2) (ev_var rfl) ht rfl) ea_nil))) (by show 3 ≤ 100000; decide))) (sz_of ?_) fun H3 e3 => ⟨_, rfl, Ex.mut (w1.trans e3) nf, ?_⟩
      · rw [List.length_cons, natI_len2, lineI_len]
        have := take_len i l
        show 3 * (l.take i).length + 1 + 3 ≤ 100000
        omega
      · rw [upd_same, take_succ hr2, lineI_snoc, natI_app]
        rfl
    · rintro σ' H' ⟨y, rfl, w1, w2⟩
      rw [htl, List.take_length] at w2
      have hk : RetP (ResL (((l.length : Int) :: nI (lineI l)).map V.int)) H' Q := (k.mono (e1.trans w1)).ro rfl (hL.mono (e1.trans w1)) g
      refine s_ret (σ := [some (.ref a), some (.ref pn), some (.ref pm), some (.ref p), some (.ref fd), y]) (ev_var rfl) fun H3 e3 => hk (.ref fd) H3 e3 ⟨fd, rfl, ?_⟩
      rw [e3 _ _ w2, List.map_cons, nI_V]
/-! ### summary -/
abbrev s_summary : Stmt := top 56
theorem sc_summary : FnScope ["ledger", "numbers", "names"] ["ledger", "numbers", "names"] (defScope s_summary) := ⟨rfl, rfl, rfl, by decide +kernel, rfl, by decide +kernel, by decide +kernel⟩
theorem ok_summary (T : Txt K w mg A) (F : FunH K mg "summary" s_summary ["ledger", "numbers", "names"]) : Has P w K mg base 10 "summary" (spDeed K A 23) := by
  refine F.ok sc_summary (fun vs H Q E h => ?_) (fun f cdv Ar outer s H vs Q E hr h => ⟨_, (pss_one (ps_ret (pe_lst (pa_cons (pe_fld (pv 0) (by rfl)) (pa_cons (pe_fld (pv 0) (by rfl)) (pa_cons (pe_fld (pv 0) (by rfl)) (pa_cons (pe_callB call_len_seq (by rfl) T.n_len PySem.boot_len (pa_cons (pe_fld (pv 0) (by rfl)) pa_nil)) pa_nil))))))), ?_⟩)
  · obtain ⟨a, ae, s, pn, pm, ns, ms, rfl, _⟩ := h
    rfl
  · obtain ⟨a, ae, s, pn, pm, ns, ms, rfl, hL, g, hn, hm, hf, hl, k⟩ := h
    have := len0 hl
    subst this
    rw [st23] at k
    obtain ⟨dx, el, q1, q2, q3, q4⟩ := id hL
    have hlen : (refs el).length = s.records.length := by
      rw [refs_len, ← List.length_map (f := (·.2)), q3]
    have h1 := evp_of (el_lst (ea_cons (ev_fld (σ := [some (.ref a), some (.ref pn), some (.ref pm)]) (ev_var (i := 0) rfl) q1 T.clL T.nL1 rfl) (ea_cons (ev_fld (ev_var (i := 0) rfl) q1 T.clL T.nL2 rfl) (ea_cons (ev_fld (ev_var (i := 0) rfl) q1 T.clL T.nL3 rfl)
      (ea_cons (ev_len (K := K) (ev_fld (ev_var (i := 0) rfl) q1 T.clL T.nL4 rfl) (sq_of q2)) ea_nil)))) (by show 4 ≤ 100000; decide))
    rw [hlen] at h1
    exact s_retP h1 (k.ro rfl hL g)
end
end Late

/-! D17: shared, cross_counts. -/
namespace Late
open PySem PySem.Spec PyProof.Rows L2 Evl
open Kex3 (Record Content Store effectiveAll Metric)
section
variable {P : Program} {w : World} {K : PySem.W.Frag} {mg : Str → Option Value} {base : Heap} {A : Adr}
variable {σ : L2.St} {H : Hp} {D : Ends} {tz : TS}
theorem getN_tells (d : List (Nat × (Addr × Told))) (u : Nat) : getN (tells d) u = (getN d u).map (·.2) := by
  unfold tells getN
  rw [List.find?_map, Option.map_map, Option.map_map]
  rfl
/-- a comprehension over the keys of a dict that a call gives -/
theorem evp_lcF {β : Type} {f : β → V} {te0 : TE} {tt : TT} {j : Nat} {vs : List Nat} {ks : List Nat} (t : Nat → Bool) (h : ∀ H1, Ex H H1 → EvP te0 σ H1 fun v H2 => ∃ (p : Addr) (d : List (Nat × β)), v = .ref p ∧ H2 p = some (.dK (encD f d)) ∧ H1 p = none ∧ d.map (·.1) = ks)
    (hz : ks.length ≤ 40000) (hw : ∀ x, wipe ((wipe σ vs).set j (some x)) vs = wipe σ vs) (hj : ∀ x, ((wipe σ vs).set j (some x))[j]? = some (some x)) (turn : ∀ u ∈ ks, ∀ H', Ex H H' → EvT tt ((wipe σ vs).set j (some (.int ((u : Nat) : Int)))) H' (t u)) :
    EvP (tLc (iKeysL te0) (gName j) tt (tVar j) vs) σ H (ResL (natI (ks.filter t))) := fun H1 e1 Q k =>
  h H1 e1 H1 (Ex.refl _) _ fun v H2 e2 ⟨p, d, ev, hp, np, hk⟩ => by
    subst ev
    refine ⟨p, _, rfl, hp, fun od D hD => ?_⟩
    have eb : Ex H1 (upd H2 p (.frz od (.dK (encD f d)))) := Ex.mut e2 np
    refine lc_fill (xs := d) (walk_keys (kvs := encD f d)) (encD_len d) (by rw [← List.length_map (f := (·.1)), hk]; exact hz) (fun x => t x.1) (fun x v _ => v = .int (x.1 : Int)) (fun x v _ => v = .int (x.1 : Int)) hD (fun H' e => e _ _ upd_same)
      (fun i x H3 H' hi e y => ?_) (fun _ _ _ _ _ q => q) (fun _ _ _ _ _ _ q => q) (fun x hx v H' e sv => ?_) fun H' tl e q1 q2 q3 => ?_
    · obtain ⟨rfl, kk, vv, q, rfl⟩ := y
      obtain ⟨z, hz, rfl, rfl⟩ := encD_at q
      exact ⟨z, hz, Ex.refl _, rfl⟩
    · subst sv
      exact ⟨_, fun _ r => r, hw _, turn x.1 (by rw [← hk]; exact List.mem_map.mpr ⟨x, hx, rfl⟩) H' ((e1.trans eb).trans e), fun _ => ev_p (ev_var (hj _))⟩
    · refine k _ _ (eb.trans e) ⟨D, rfl, ?_⟩
      rw [q2, tl_fun (out := fun x => V.int (x.1 : Int)) q1 q3, out_natI, ← hk, List.filter_map]
      rfl
/-! ### shared -/
abbrev s_shared : Stmt := top 54
theorem sc_shared : FnScope ["ledger", "numbers", "names", "other", "unit"] ["ledger", "numbers", "names"] (defScope s_shared) := ⟨rfl, rfl, rfl, by decide +kernel, rfl, by decide +kernel, by decide +kernel⟩
theorem fit21 {x u : Nat} (h : fitsN 21 [x, u] = true) : x ≤ 7 ∧ u ≤ 7 := by simpa [fitsN, codes, fitC, mostOf] using h
theorem ok_shared (T : Txt K w mg A) (F : FunH K mg "shared" s_shared ["ledger", "numbers", "names"]) (G_with_count : Has P w K mg base 1 "with_count" spWc) (G_participants : Has P w K mg base 7 "participants" (spParts K A)) :
    Has P w K mg base 10 "shared" (spDeed K A 21) := by
  refine F.ok sc_shared (fun vs H Q E h => ?_) (fun f cdv Ar outer s H vs Q E hr h => ⟨_, by have hu := hu_of hr; exact (pss_cons (ps_set (i := 3) sc_shared.nd rfl (by first | exact Or.inl rfl | exact Or.inr rfl) (pe_callH G_participants (hr.mono (by decide)) (by rfl) (pa_cons (pv 0) (pa_cons (pe_ix ix_list (pv 1) pe_int (fun _ _ => rfl)) pa_nil))))   (pss_one (ps_ret (pe_callH G_with_count (hr.mono (by decide)) (by rfl) (pa_cons (pe_lc (own := [("unit", 4)]) (g := (gName 4)) (tt := (tB (tDIn (tVar 4) (tVar 3)))) (te := (tVar 4)) (by rfl) sc_shared.nd (pi_keysL (pe_callH G_participants (hr.mono (by decide)) (by rfl) (pa_cons (pv 0) (pa_cons (pe_ix ix_list (pv 1) pe_int (fun _ _ => rfl)) pa_nil)))) (blkOk_by (own := [("unit", 4)]) (N := ["ledger", "numbers", "names", "other", "unit"]) (sc := defScope s_shared) (by decide +kernel)) (fun _ _ _ _ _ => by exact (pg_name (i := 4) sc_shared.nd rfl (by first | exact Or.inl rfl | exact Or.inr rfl))) (fun _ _ _ _ _ => by exact pts_one (pt_cmp (pc_din hu (pv 4) (pv 3)))) (fun _ _ _ _ _ => by exact (pv 4))) pa_nil))))), ?_⟩)
  · obtain ⟨a, ae, s, pn, pm, ns, ms, rfl, _⟩ := h
    rfl
  · obtain ⟨a, ae, s, pn, pm, ns, ms, rfl, hL, g, hn, hm, hf, hl, k⟩ := h
    obtain ⟨x, y, rfl⟩ := len2 hl
    obtain ⟨b1, b2⟩ := fit21 (fits_n hf)
    rw [st21 b1 b2] at k
    refine q_asgP (evp_parts (ev_var rfl) (ev_num (j := 1) (ev_var rfl) hn rfl) hL g) fun v1 H1 e1 ⟨ps, d, ev, s1, s2, s3⟩ => ?_
    subst ev
    have hL1 := hL.mono e1
    have k1 := k.mono e1
    have hpl := parts_len (effectiveAll s) x
    have hsh : ((parts (effectiveAll s) x).map (·.1)).filter (fun u => (getN d u).isSome) = sharedR (effectiveAll s) x y := by
      unfold sharedR
      rw [List.filter_map]
      congr 1
      apply List.filter_congr
      intro z _
      show (getN d z.1).isSome = _
      rw [← s2, getN_tells]
      cases getN d z.1 <;> rfl
    have hlen : (sharedR (effectiveAll s) x y).length ≤ 100 := by
      rw [← hsh]
      refine Nat.le_trans (List.length_filter_le _ _) ?_
      rw [List.length_map]
      exact hpl
    refine s_retP (evp_wcN (l := sharedR (effectiveAll s) x y) ?_ (by omega)) (k1.ro rfl hL1 g)
    rw [← hsh]
    refine evp_lcF (f := tref) (fun u => (getN d u).isSome) (fun H2 e2 => ?_) (by rw [List.length_map]; omega) (fun _ => rfl) (fun _ => rfl) fun u hu' H' e => ?_
    · refine (evp_partsF (ev_var rfl) (ev_num (j := 0) (ev_var rfl) (ex_l (e1.trans e2) hn) rfl) (hL1.mono e2) g).imp fun v H3 e3 ⟨⟨p, d1, ev, q1, q2, _⟩, p', ev', np⟩ => ?_
      subst ev
      cases ev'
      exact ⟨p, d1, rfl, q1, np, by rw [← tells_keys, q2]⟩
    · refine et_is (et_B (ev_din (k := natK u) (ev_var rfl) (ev_var rfl) (.inl (e _ _ s1)))) ?_
      rw [encD_val]
      cases getN d u <;> rfl
/-! ### cross_counts -/
abbrev s_cross_counts : Stmt := top 55
theorem sc_cross_counts : FnScope ["ledger", "numbers", "names", "one", "other", "found", "unit"] ["ledger", "numbers", "names"] (defScope s_cross_counts) := ⟨rfl, rfl, rfl, by decide +kernel, rfl, by decide +kernel, by decide +kernel⟩
theorem fit22 {x u : Nat} (h : fitsN 22 [x, u] = true) : x ≤ 7 ∧ u ≤ 7 := by simpa [fitsN, codes, fitC, mostOf] using h
theorem el_rep : EvL (tOp rRep (tLst (tCons (tC (.int 0)) tNil)) (tC (.int 16))) σ H (natI (List.replicate 16 0)) := fun H1 e1 Q k =>
  (el_lst (σ := σ) (ea_cons (ev_c (v := .int 0)) ea_nil) (by show 1 ≤ 100000; decide)) H1 e1 _ fun q H2 nq e2 hq => ⟨q, 16, [.int 0], rfl, rfl, hq, by decide, by decide, sz_of (by decide), fun p hp => k p _ (fresh_back e2 hp) (e2.trans (Ex.new hp)) upd_same⟩
theorem s_augS {ta tb : TE} {l : Addr} {fl : List Nat} {k : Nat} (hl : H l = some (.lst (natI fl))) (ho : Ev ta σ H (.ref l)) (hi : Ev tb σ H (.int (k : Int))) (hk : k < fl.length) (q : ∀ H1, Ex H H1 → D.nx σ (upd H1 l (.lst (natI (fl.set k (fl.getD k 0 + 1)))))) :
    tAugS ta tb (tC (.int 1)) (rIxL K) (ipI fun i j => i + j) rSetL D σ H := ho H (Ex.refl H) _ fun H1 e1 => hi H1 e1 _ fun H2 e2 => by
  have e12 := e1.trans e2
  have hg : fl[k]? = some (fl.getD k 0) := by
    rw [List.getD_eq_getElem?_getD, List.getElem?_eq_getElem hk]
    rfl
  refine ⟨l, natI fl, (k : Int), .int (fl.getD k 0 : Int), rfl, rfl, sq_of (e12 _ _ hl), atI_nat (j := k) (by unfold natI; rw [List.getElem?_map, hg]; rfl), _, _, rfl, rfl, l, natI fl, (k : Int), k, rfl, rfl, e12 _ _ hl, ixN_nat (by rw [natI_len2]; exact hk), ?_⟩
  have h1 := q H2 e12
  have h2 : natI (fl.set k (fl.getD k 0 + 1)) = (natI fl).set k (.int ((fl.getD k 0 : Int) + 1)) := by
    unfold natI
    rw [List.map_set]
    rfl
  rw [h2] at h1
  exact h1
theorem crossStep_len (o : List (Nat × Told)) (fl : List Nat) (x : Nat × Told) : (crossStep o fl x).length = fl.length := by
  unfold crossStep
  split
  · rfl
  · rw [List.length_set]
theorem crossFold_len (o : List (Nat × Told)) : ∀ (xs : List (Nat × Told)) (fl : List Nat), (xs.foldl (crossStep o) fl).length = fl.length
  | [], _ => rfl
  | x :: xs, fl => by rw [List.foldl_cons, crossFold_len o xs, crossStep_len]
theorem ok_cross_counts (T : Txt K w mg A) (F : FunH K mg "cross_counts" s_cross_counts ["ledger", "numbers", "names"]) (G_participants : Has P w K mg base 7 "participants" (spParts K A)) :
    Has P w K mg base 10 "cross_counts" (spDeed K A 22) := by
  refine F.ok sc_cross_counts (fun vs H Q E h => ?_) (fun f cdv Ar outer s H vs Q E hr h => ⟨_, by have hu := hu_of hr; exact (pss_cons (ps_set (i := 3) sc_cross_counts.nd rfl (by first | exact Or.inl rfl | exact Or.inr rfl) (pe_callH G_participants (hr.mono (by decide)) (by rfl) (pa_cons (pv 0) (pa_cons (pe_ix ix_list (pv 1) pe_int (fun _ _ => rfl)) pa_nil))))   (pss_cons (ps_set (i := 4) sc_cross_counts.nd rfl (by first | exact Or.inl rfl | exact Or.inr rfl) (pe_callH G_participants (hr.mono (by decide)) (by rfl) (pa_cons (pv 0) (pa_cons (pe_ix ix_list (pv 1) pe_int (fun _ _ => rfl)) pa_nil))))   (pss_cons (ps_set (i := 5) sc_cross_counts.nd rfl (by first | exact Or.inl rfl | exact Or.inr rfl) (pe_op op_rep (pe_lst (pa_cons pe_int pa_nil)) pe_int))   (pss_cons (ps_lock (ps_for PassesOwn.never rfl (pi_keys (pv 3)) (pg_name (i := 6) sc_cross_counts.nd rfl (by first | exact Or.inl rfl | exact Or.inr rfl)) (pss_one (ps_if (pt_cmp (pc_din hu (pv 6) (pv 4))) (pss_one (ps_augS (pv 5) (pe_op op_add (pe_op op_mul pe_int (pe_ix ix_tup (pe_dget hu (pv 3) (pv 6) (fun _ _ => rfl)) pe_int (fun _ _ => rfl))) (pe_ix ix_tup (pe_dget hu (pv 4) (pv 6) (fun _ _ => rfl)) pe_int (fun _ _ => rfl))) get_list pe_int ip_add set_list)) pss_nil))))   (pss_one (ps_ret (pe_op op_cat (pe_lst (pa_cons pe_int pa_nil)) (pv 5)))))))), ?_⟩)
  · obtain ⟨a, ae, s, pn, pm, ns, ms, rfl, _⟩ := h
    rfl
  · obtain ⟨a, ae, s, pn, pm, ns, ms, rfl, hL, g, hn, hm, hf, hl, k⟩ := h
    obtain ⟨x, y, rfl⟩ := len2 hl
    obtain ⟨b1, b2⟩ := fit22 (fits_n hf)
    rw [st22 g b1 b2] at k
    refine q_asgP (evp_parts (ev_var rfl) (ev_num (j := 0) (ev_var rfl) hn rfl) hL g) fun v1 H1 e1 ⟨p1, d1, ev, s1, s2, s3⟩ => ?_
    subst ev
    refine q_asgP (evp_parts (ev_var rfl) (ev_num (j := 1) (ev_var rfl) (ex_l e1 hn) rfl) (hL.mono e1) g) fun v2 H2 e2 ⟨p2, d2, ev, t1, t2, t3⟩ => ?_
    subst ev
    have e12 := e1.trans e2
    have hgood : ∀ z ∈ effectiveAll s, GoodZ z := fun z hz => all_good g hz
    have h1 := e2 _ _ s1
    have dnd : (d1.map (·.1)).Nodup := tells_nd s2 (parts_nd (effectiveAll s) x)
    have dlen : d1.length ≤ 100 := by
      rw [← tells_len, s2]
      exact parts_len (effectiveAll s) x
    have s3' : ∀ z ∈ d1, SqT K H2 z.2.1 ((toldI z.2.2).map V.int) := fun z hz => ex_t e2 (s3 z hz)
    have kr : RetP (ResL ((16 :: nI (crossR (tells d1) (tells d2))).map V.int)) H2 Q := by
      rw [s2, t2]
      exact (k.mono e12).ro rfl (hL.mono e12) g
    refine q_asgL el_rep fun fd H3 nf e3 hf3 => ?_
    have pf : p1 ≠ fd := ne_of_none h1 nf
    refine ⟨p1, _, e3 _ _ h1, trivial, fun od => ?_⟩
    have hfp : upd H2 p1 (.frz od (.dK (encD tref d1))) fd = none := by
      rw [upd_ne fun z => pf z.symm]
      exact nf
    have e0 : Ex (upd H2 p1 (.frz od (.dK (encD tref d1)))) (upd H3 p1 (.frz od (.dK (encD tref d1)))) := fun b o q => by
      by_cases c : b = p1
      · subst c
        rw [upd_same] at q ⊢
        exact q
      · rw [upd_ne c] at q ⊢
        exact e3 _ _ q
    have u3 : ∀ z ∈ d1, SqT K (upd H2 p1 (.frz od (.dK (encD tref d1)))) z.2.1 ((toldI z.2.2).map V.int) := fun z hz => lock_t h1 (s3' z hz)
    have u4 : ∀ z ∈ d2, SqT K (upd H2 p1 (.frz od (.dK (encD tref d1)))) z.2.1 ((toldI z.2.2).map V.int) := fun z hz => lock_t h1 (t3 z hz)
    have hp0 : upd H2 p1 (.frz od (.dK (encD tref d1))) p1 = some (.frz od (.dK (encD tref d1))) := upd_same
    have hp2 : Rd (upd H2 p1 (.frz od (.dK (encD tref d1)))) p2 (.dK (encD tref d2)) := lock_rd h1 (.inl t1) fun _ _ z => by cases z
    have f0 : upd H3 p1 (.frz od (.dK (encD tref d1))) fd = some (.lst (natI (List.replicate 16 0))) := by
      rw [upd_ne fun z => pf z.symm]
      exact hf3
    have back : ∀ H', Ex (upd H2 p1 (.frz od (.dK (encD tref d1)))) H' → Ex H2 (upd H' p1 (.dK (encD tref d1))) := fun H' e => lock_back h1 e
    generalize upd H2 p1 (.frz od (.dK (encD tref d1))) = B at hfp e0 u3 u4 hp0 hp2 back
    generalize upd H3 p1 (.frz od (.dK (encD tref d1))) = H4 at e0 f0
    refine ⟨_, rfl, p1, od, rfl, .inl ⟨_, e0 _ _ hp0, for_it walk_keys (fun i σ' H' => ∃ z, σ' = [some (.ref a), some (.ref pn), some (.ref pm), some (.ref p1), some (.ref p2), some (.ref fd), z] ∧ Ex B H' ∧ H' fd = some (.lst (natI (((tells d1).take i).foldl (crossStep (tells d2)) (List.replicate 16 0)))))
      ⟨_, rfl, e0, f0⟩ (fun i σ' H' _ ⟨_, _, e, _⟩ => e _ _ hp0) ?_ ?_⟩⟩
    · rintro i z σ' H' Hx hi ⟨y', rfl, w1, w2⟩ ⟨rfl, kk, vv, q, rfl⟩
      obtain ⟨c, hc, rfl, rfl⟩ := encD_at q
      have hcm := mem_of_at hc
      rw [take_succ (tells_at hc), List.foldl_append]
      have hfl : (((tells d1).take i).foldl (crossStep (tells d2)) (List.replicate 16 0)).length = 16 := crossFold_len _ _ _
      generalize ((tells d1).take i).foldl (crossStep (tells d2)) (List.replicate 16 0) = fl at w2 hfl
      show tIfS _ _ _ _ _ _
      have hcs : List.foldl (crossStep (tells d2)) fl [(c.1, c.2.2)] = crossStep (tells d2) fl (c.1, c.2.2) := rfl
      rw [hcs]
      have hgt := getN_tells d2 c.1
      refine s_when (b := (getN d2 c.1).isSome) (et_is (et_B (ev_din (k := natK c.1) (ev_var rfl) (ev_var rfl) (ex_rd w1 hp2))) (by rw [encD_val]; cases getN d2 c.1 <;> rfl)) (fun hb H5 e5 => ?_) (fun hb H5 e5 => ?_)
      · obtain ⟨c2, hc2⟩ := Option.isSome_iff_exists.mp hb
        obtain ⟨v1, w1', hy1, hp1, hm1⟩ := parts_mem (l := effectiveAll s) (e := x) (x := (c.1, c.2.2)) (by rw [← s2]; exact List.mem_map.mpr ⟨c, hcm, rfl⟩)
        have hc2m : (c.1, c2.2) ∈ tells d2 := List.mem_map.mpr ⟨_, getN_mem hc2, rfl⟩
        obtain ⟨v2, w2', hy2, hp2', hm2⟩ := parts_mem (l := effectiveAll s) (e := y) (x := (c.1, c2.2)) (by rw [← t2]; exact hc2m)
        have q1 : c.2.2 = .part v1 w1' := (Prod.mk.inj hy1).2
        have q2 : c2.2 = .part v2 w2' := (Prod.mk.inj hy2).2
        have r1 := part_var hgood hp1
        have r2 := part_var hgood hp2'
        have e15 := w1.trans e5
        have a1 := ex_t e15 (u3 c hcm)
        have a2 := ex_t e15 (u4 _ (getN_mem hc2))
        rw [q1] at a1
        have a2 : SqT K H5 c2.1 ((toldI c2.2).map V.int) := a2
        rw [q2] at a2
        have hst : crossStep (tells d2) fl (c.1, c.2.2) = fl.set (4 * v1 + v2) (fl.getD (4 * v1 + v2) 0 + 1) := by
          unfold crossStep
          rw [hgt, hc2]
          show fl.set (4 * varT c.2.2 + varT c2.2) (fl.getD (4 * varT c.2.2 + varT c2.2) 0 + 1) = _
          rw [q1, q2]
          rfl
        rw [hst]
        refine s_augS (k := 4 * v1 + v2) (e5 _ _ w2) (ev_var rfl) (ev_is (ev_op (ev_op ev_c (ev_op (ev_dget (k := natK c.1) (ev_var rfl) (ev_var rfl) (.inr ⟨od, e15 _ _ hp0⟩) (encD_get (mem_getN (v := c.2) dnd hcm))) ev_c (rv_ixT a1 (atI_nat (j := 0) rfl))) (rv_I (.inl ⟨by decide, by decide⟩)))
          (ev_op (ev_dget (k := natK c.1) (ev_var rfl) (ev_var rfl) (ex_rd e15 hp2) (encD_get hc2)) ev_c (rv_ixT a2 (atI_nat (j := 0) rfl))) rv_I0) (congrArg V.int (by omega))) (by simp only at r1 r2; omega) fun H6 e6 => ⟨_, rfl, Ex.mut (e15.trans e6) hfp, upd_same⟩
      · have hst : crossStep (tells d2) fl (c.1, c.2.2) = fl := by
          unfold crossStep
          rw [hgt]
          cases hg : getN d2 c.1 with
          | none => rfl
          | some c2 =>
            rw [hg] at hb
            cases hb
        rw [hst]
        exact ⟨_, rfl, w1.trans e5, e5 _ _ w2⟩
    · rintro σ' H' ⟨z, rfl, w1, w2⟩
      refine ⟨w1 _ _ hp0, ?_⟩
      have w3 : upd H' p1 (.dK (encD tref d1)) fd = some (.lst (natI (crossR (tells d1) (tells d2)))) := by
        rw [upd_ne fun z => pf z.symm, w2, encD_len, ← tells_len, List.take_length]
        rfl
      show tRet (tOp rCat (tLst (tCons (tC (.int 16)) tNil)) (tVar 5)) { nx := fun _ H' => Q .non H', rt := Q } _ _
      refine s_retP (P := ResL ((16 :: nI (crossR (tells d1) (tells d2))).map V.int)) ?_ fun v H5 e5 r => kr v H5 ((back _ w1).trans e5) r
      rw [List.map_cons, nI_V]
      exact evp_cat (el_lst (ea_cons ev_c ea_nil) (by show 1 ≤ 100000; decide)) (fun H5 e5 => ev_var rfl) w3 (by rw [List.length_map]; unfold crossR; rw [crossFold_len]; decide)
end
end Late

/-! D18: totals, funnel, retention. -/
namespace Late
open PySem PySem.Spec PyProof.Rows L2 Evl
open Kex3 (Record Content Store effectiveAll Metric)
section
variable {P : Program} {w : World} {K : PySem.W.Frag} {mg : Str → Option Value} {base : Heap} {A : Adr}
variable {σ : L2.St} {H : Hp} {D : Ends} {tz : TS}
/-- a comprehension over pairs of rows and a time -/
theorem evp_lcVu {i j1 j2 : Nat} {tt : TT} {te : TE} {vs : List Nat} {p : Addr} {l : List Row} {ul : List (Addr × (Addr × (Nat × Told)))} (t : Nat × Told → Bool) (out : Nat × Told → V) (hv : σ[i]? = some (some (.ref p))) (hp : H p = some (.lst (refs ul))) (hV : VuAt K H l ul) (hz : ul.length ≤ 40000)
    (hw : ∀ x y, wipe (((wipe σ vs).set j1 (some x)).set j2 (some y)) vs = wipe σ vs)
    (turn : ∀ (b : Addr) (y : Nat × Told) H', Ex H H' → y ∈ ul.map (fun x => x.2.2) → RowsL K H' b (ofU l y.1) →
      EvT tt (((wipe σ vs).set j1 (some (.ref b))).set j2 (some (.int (timeT y.2 : Int)))) H' (t y) ∧ (t y = true → Ev te (((wipe σ vs).set j1 (some (.ref b))).set j2 (some (.int (timeT y.2 : Int)))) H' (out y))) :
    EvP (tLc (iList K (tVar i)) (gTup K 2 (gCons (gName j1) (gCons (gName j2) gNil))) tt te vs) σ H (ResL (((ul.map (fun x => x.2.2)).filter t).map out)) := fun H1 e1 Q k =>
  ⟨_, hv, p, rfl, ⟨_, sq_of (e1 _ _ hp)⟩, fun D hD => by
    refine lc_pure (xs := ul) (walk_list (xs := refs ul)) (refs_len _) hz (fun x => t x.2.2) (fun x v _ => v = .ref x.1) (fun x => out x.2.2) hD (fun H' e => sq_of (e _ _ (e1 _ _ hp))) (fun i x H2 H' _ _ y => ?_) (fun z hz x H' e s => ?_) fun H' e q => ?_
    · obtain ⟨rfl, y⟩ := y
      obtain ⟨z, hz, rfl⟩ := ref_at y
      exact ⟨z, hz, Ex.refl _, rfl⟩
    · subst s
      obtain ⟨h1, h2⟩ := hV z hz
      have e1' := e1.trans e
      obtain ⟨r1, r2⟩ := turn z.2.1 z.2.2 H' e1' (List.mem_map.mpr ⟨z, hz, rfl⟩) (h2.mono e1')
      exact ⟨_, fun R r => ⟨z.1, _, rfl, st_of (e1' _ _ h1), rfl, _, _, rfl, _, _, rfl, rfl, r⟩, hw _ _, r1, r2⟩
    · refine k _ _ e ⟨D, rfl, ?_⟩
      rw [q, List.filter_map, List.map_map]
      rfl⟩
theorem filter_all {α : Type} (l : List α) : l.filter (fun _ => true) = l := List.filter_eq_self.mpr fun _ _ => rfl
theorem vu_ul {l : List Row} {x v : Nat} {ul : List (Addr × (Addr × (Nat × Told)))} (h : ul.map (fun x => x.2.2) = vu l x v) : ul.length ≤ 100 := by
  rw [← List.length_map (f := fun x => x.2.2), h]
  exact vu_len l x v
theorem out_nat {α : Type} (l : List α) (f : α → Nat) : (l.map fun y => V.int (f y : Int)) = natI (l.map f) := by
  unfold natI
  rw [List.map_map]
  rfl
theorem evp_lcI {i j : Nat} {p : Addr} {tt : TT} {te : TE} {vs : List Nat} {l : List Nat} (t : Nat → Bool) (out : Nat → V) (hv : σ[i]? = some (some (.ref p))) (h : SqL K H p (natI l)) (hz : l.length ≤ 40000) (hw : ∀ x, wipe ((wipe σ vs).set j (some x)) vs = wipe σ vs)
    (turn : ∀ n ∈ l, ∀ H', Ex H H' → EvT tt ((wipe σ vs).set j (some (.int ((n : Nat) : Int)))) H' (t n) ∧ (t n = true → Ev te ((wipe σ vs).set j (some (.int ((n : Nat) : Int)))) H' (out n))) : EvP (tLc (iList K (tVar i)) (gName j) tt te vs) σ H (ResL ((l.filter t).map out)) :=
  evp_of (el_lc (src := fun n : Nat => V.int (n : Int)) t out (ev_var hv) h hz hw turn)
/-! ### totals -/
abbrev s_totals : Stmt := top 49
theorem sc_totals : FnScope ["ledger", "numbers", "names", "units", "found", "rows", "start", "number"] ["ledger", "numbers", "names"] (defScope s_totals) := ⟨rfl, rfl, rfl, by decide +kernel, rfl, by decide +kernel, by decide +kernel⟩
theorem fit16 {x u y e c d : Nat} (h : fitsN 16 [x, u, y, e, c, d] = true) : x ≤ 7 ∧ u ≤ 3 ∧ y ≤ 2 ∧ e ≤ 9 ∧ c ≤ 100000 ∧ 1 ≤ d ∧ d ≤ 100000 := by
  have := h
  simp [fitsN, codes, fitC, mostOf] at this
  omega
theorem values_le {s : Store} (g : Good s) (x v : Nat) (m : Metric) : ∀ n ∈ valuesR (effectiveAll s) x v m, n ≤ 600000 := fun n hn => by
  obtain ⟨y, _, rfl⟩ := List.mem_map.mp hn
  exact metric_le (fun z hz => (all_good g (ofU_mem hz)).con.second) (unit_len g _) _ _
theorem ok_totals (T : Txt K w mg A) (F : FunH K mg "totals" s_totals ["ledger", "numbers", "names"]) (G_variant_units : Has P w K mg base 8 "variant_units" (spVu K A)) (G_metric_value : Has P w K mg base 2 "metric_value" (spMetric K)) :
    Has P w K mg base 10 "totals" (spDeed K A 16) := by
  refine F.ok sc_totals (fun vs H Q E h => ?_) (fun f cdv Ar outer s H vs Q E hr h => ⟨_, (pss_cons (ps_set (i := 3) sc_totals.nd rfl (by first | exact Or.inl rfl | exact Or.inr rfl) (pe_callH G_variant_units (hr.mono (by decide)) (by rfl) (pa_cons (pv 0) (pa_cons (pe_ix ix_list (pv 1) pe_int (fun _ _ => rfl)) (pa_cons (pe_ix ix_list (pv 1) pe_int (fun _ _ => rfl)) pa_nil)))))   (pss_cons (ps_setLc (i := 4) (own := [("rows", 5), ("start", 6)]) (g := (gTup K 2 (gCons (gName 5) (gCons (gName 6) gNil)))) (tt := tYes) (te := (tCall (spMetric K) [] E0 (tCons (tVar 5) (tCons (tVar 6) (tCons (tSl (rSlL K) (tVar 1) (tPart (tC (.int 2))) tNoPart) tNil))))) (by rfl) sc_totals.nd rfl rfl (sw_true rfl rfl rfl (by decide +kernel)) (pi_list (pv 3)) (blkOk_by (own := [("rows", 5), ("start", 6)]) (N := ["ledger", "numbers", "names", "units", "found", "rows", "start", "number"]) (sc := defScope s_totals) (by decide +kernel)) (fun _ _ _ _ _ => by exact (pg_tup (by rfl) (pgs_cons (pg_name (i := 5) sc_totals.nd rfl (by first | exact Or.inl rfl | exact Or.inr rfl)) (pgs_cons (pg_name (i := 6) sc_totals.nd rfl (by first | exact Or.inl rfl | exact Or.inr rfl)) pgs_nil)))) (fun _ _ _ _ _ => pts_nil) (fun _ _ _ _ _ => by exact (pe_callH G_metric_value (hr.mono (by decide)) (by rfl) (pa_cons (pv 5) (pa_cons (pv 6) (pa_cons (pe_slice sl_list (pv 1) (po_some pe_int) po_none) pa_nil))))))   (pss_one (ps_ret (pe_lst (pa_cons (pe_callB call_len_seq (by rfl) T.n_len PySem.boot_len (pa_cons (pv 4) pa_nil)) (pa_cons (pe_callB (cr_sum rfl) (by rfl) T.n_sum (by decide +kernel) (pa_cons (pv 4) pa_nil)) (pa_cons (pe_callB (cr_sum rfl) (by rfl) T.n_sum (by decide +kernel) (pa_cons (pe_lc (own := [("number", 7)]) (g := (gName 7)) (tt := tYes) (te := (tOp (rI CMul fun i j => .int (i * j)) (tVar 7) (tVar 7))) (by rfl) sc_totals.nd (pi_list (pv 4)) (blkOk_by (own := [("number", 7)]) (N := ["ledger", "numbers", "names", "units", "found", "rows", "start", "number"]) (sc := defScope s_totals) (by decide +kernel)) (fun _ _ _ _ _ => by exact (pg_name (i := 7) sc_totals.nd rfl (by first | exact Or.inl rfl | exact Or.inr rfl))) (fun _ _ _ _ _ => pts_nil) (fun _ _ _ _ _ => by exact (pe_op op_mul (pv 7) (pv 7)))) pa_nil)) pa_nil)))))))), ?_⟩)
  · obtain ⟨a, ae, s, pn, pm, ns, ms, rfl, _⟩ := h
    rfl
  · obtain ⟨a, ae, s, pn, pm, ns, ms, rfl, hL, g, hn, hm, hf, hl, k⟩ := h
    obtain ⟨x, v, y, e, c, d, rfl⟩ := len6 hl
    obtain ⟨b1, b2, b3, b4, b5, b6, b7⟩ := fit16 (fits_n hf)
    rw [st16 b1 b2 b3 b4 b5 b6 b7] at k
    refine q_asgP (evp_vu (ev_var rfl) (ev_num (j := 0) (ev_var rfl) hn rfl) (ev_num (j := 1) (ev_var rfl) hn rfl) hL g) fun v1 H1 e1 ⟨pu, ul, ev, u1, u2, u3⟩ => ?_
    subst ev
    have hulen := fun b => unit_len g b
    have hle := values_le g x v ⟨y, e, c, d⟩
    have hul := vu_ul u2
    refine q_asgP (evp_lcVu (K := K) (i := 3) (l := effectiveAll s) (fun _ => true) (fun z => V.int (metricR (ofU (effectiveAll s) z.1) (timeT z.2) ⟨y, e, c, d⟩ : Int)) rfl u1 u3 (by omega) (fun _ _ => rfl) fun b z H' e' hz hR => ⟨et_yes, fun _ =>
      ev_metric (ev_var rfl) (ev_var rfl) (el_metI rfl (ex_l (e1.trans e') hn)) hR (hulen _)⟩) fun v2 H2 e2 ⟨pf, ev, f1⟩ => ?_
    subst ev
    have e12 := e1.trans e2
    rw [filter_all, u2, out_nat] at f1
    have f1 : H2 pf = some (.lst (natI (valuesR (effectiveAll s) x v ⟨y, e, c, d⟩))) := f1
    have hvl : (valuesR (effectiveAll s) x v ⟨y, e, c, d⟩).length ≤ 100 := by
      unfold valuesR
      rw [List.length_map]
      exact vu_len _ _ _
    generalize valuesR (effectiveAll s) x v ⟨y, e, c, d⟩ = l at f1 k hle hvl
    have hsq := evp_lcI (K := K) (σ := [some (.ref a), some (.ref pn), some (.ref pm), some (.ref pu), some (.ref pf), none, none, none]) (H := H2) (i := 4) (j := 7) (vs := [7]) (tt := tYes) (te := tOp (rI CMul fun i j => .int (i * j)) (tVar 7) (tVar 7)) (l := l) (fun _ => true) (fun n => V.int ((n * n : Nat) : Int)) rfl (sq_of f1) (by omega) (fun _ => rfl)
      fun n hn H' e' => ⟨et_yes, fun _ => ev_is (ev_op (ev_var rfl) (ev_var rfl) (rv_I (.inl ⟨by omega, by have := hle n hn; omega⟩))) (congrArg V.int (Int.natCast_mul n n).symm)⟩
    rw [filter_all, out_nat, ← nI_V] at hsq
    have hs1 : (nI l).sum = (l.sum : Int) := sum_natI l
    have hs2 : (nI (l.map fun n : Nat => n * n)).sum = (((l.map fun n : Nat => n * n).sum : Nat) : Int) := sum_natI _
    have f2 : SqL K H2 pf ((nI l).map V.int) := by
      rw [nI_V]
      exact sq_of f1
    have h1 := evp_of (el_lst (ea_cons (ev_len (K := K) (σ := [some (.ref a), some (.ref pn), some (.ref pm), some (.ref pu), some (.ref pf), none, none, none]) (ev_var (i := 4) rfl) (sq_of f1)) (ea_cons (ev_sum (K := K) (te := tVar 4) (ns := nI l) fun H3 e3 Q' q => ⟨_, rfl, q _ _ (Ex.refl _) ⟨pf, rfl, by rw [nI_V]; exact e3 _ _ f1⟩⟩)
      (ea_cons (ev_sum (K := K) hsq) ea_nil))) (by show 3 ≤ 100000; decide))
    rw [natI_len2, hs1, hs2] at h1
    exact s_retP h1 ((k.mono e12).ro rfl (hL.mono e12) g)
/-! ### funnel -/
abbrev s_funnel : Stmt := top 50
theorem sc_funnel : FnScope ["ledger", "numbers", "names", "units", "depths", "found", "least", "rows", "start", "depth"] ["ledger", "numbers", "names"] (defScope s_funnel) := ⟨rfl, rfl, rfl, by decide +kernel, rfl, by decide +kernel, by decide +kernel⟩
theorem fit17 {x v : Nat} (h : fitsN 17 [x, v] = true) : x ≤ 7 ∧ v ≤ 3 := by simpa [fitsN, codes, fitC, mostOf] using h
theorem range_snoc {α : Type} (f : Nat → α) (i : Nat) : (List.range (i + 1)).map f = (List.range i).map f ++ [f i] := by
  rw [List.range_succ, List.map_append]
  rfl
theorem ok_funnel (T : Txt K w mg A) (F : FunH K mg "funnel" s_funnel ["ledger", "numbers", "names"]) (G_variant_units : Has P w K mg base 8 "variant_units" (spVu K A)) (G_funnel_depth : Has P w K mg base 3 "funnel_depth" (spDepth K)) :
    Has P w K mg base 10 "funnel" (spDeed K A 17) := by
  refine F.ok sc_funnel (fun vs H Q E h => ?_) (fun f cdv Ar outer s H vs Q E hr h => ⟨_, (pss_cons (ps_set (i := 3) sc_funnel.nd rfl (by first | exact Or.inl rfl | exact Or.inr rfl) (pe_callH G_variant_units (hr.mono (by decide)) (by rfl) (pa_cons (pv 0) (pa_cons (pe_ix ix_list (pv 1) pe_int (fun _ _ => rfl)) (pa_cons (pe_ix ix_list (pv 1) pe_int (fun _ _ => rfl)) pa_nil)))))   (pss_cons (ps_setLc (i := 4) (own := [("rows", 7), ("start", 8)]) (g := (gTup K 2 (gCons (gName 7) (gCons (gName 8) gNil)))) (tt := tYes) (te := (tCall (spDepth K) [] E0 (tCons (tVar 7) (tCons (tVar 8) (tCons (tVar 2) tNil))))) (by rfl) sc_funnel.nd rfl rfl (sw_true rfl rfl rfl (by decide +kernel)) (pi_list (pv 3)) (blkOk_by (own := [("rows", 7), ("start", 8)]) (N := ["ledger", "numbers", "names", "units", "depths", "found", "least", "rows", "start", "depth"]) (sc := defScope s_funnel) (by decide +kernel)) (fun _ _ _ _ _ => by exact (pg_tup (by rfl) (pgs_cons (pg_name (i := 7) sc_funnel.nd rfl (by first | exact Or.inl rfl | exact Or.inr rfl)) (pgs_cons (pg_name (i := 8) sc_funnel.nd rfl (by first | exact Or.inl rfl | exact Or.inr rfl)) pgs_nil)))) (fun _ _ _ _ _ => pts_nil) (fun _ _ _ _ _ => by exact (pe_callH G_funnel_depth (hr.mono (by decide)) (by rfl) (pa_cons (pv 7) (pa_cons (pv 8) (pa_cons (pv 2) pa_nil))))))   (pss_cons (ps_set (i := 5) sc_funnel.nd rfl (by first | exact Or.inl rfl | exact Or.inr rfl) (pe_lst (pa_cons (pe_callB call_len_seq (by rfl) T.n_len PySem.boot_len (pa_cons (pv 2) pa_nil)) pa_nil)))   (pss_cons (ps_for PassesOwn.never rfl (pi_range2 (by rfl) T.n_range (pa_cons pe_int (pa_cons (pe_op op_add (pe_callB call_len_seq (by rfl) T.n_len PySem.boot_len (pa_cons (pv 2) pa_nil)) pe_int) pa_nil))) (pg_name (i := 6) sc_funnel.nd rfl (by first | exact Or.inl rfl | exact Or.inr rfl)) (pss_one (ps_expr (pe_bm PySem.F.plainAttrs_list PySem.F.slot_list_append PySem.F.type_list_append mt_append (pv 5) (pa_cons (pe_callB call_len_seq (by rfl) T.n_len PySem.boot_len (pa_cons (pe_lc (own := [("depth", 9)]) (g := (gName 9)) (tt := (tTest (tOp (rI0 fun i j => .bl (decide (j ≤ i))) (tVar 9) (tVar 6)))) (te := (tVar 9)) (by rfl) sc_funnel.nd (pi_list (pv 4)) (blkOk_by (own := [("depth", 9)]) (N := ["ledger", "numbers", "names", "units", "depths", "found", "least", "rows", "start", "depth"]) (sc := defScope s_funnel) (by decide +kernel)) (fun _ _ _ _ _ => by exact (pg_name (i := 9) sc_funnel.nd rfl (by first | exact Or.inl rfl | exact Or.inr rfl))) (fun _ _ _ _ _ => by exact pts_one (pt_cmpR op_ge (pv 9) (pv 6) (nomark _))) (fun _ _ _ _ _ => by exact (pv 9))) pa_nil)) pa_nil)))))   (pss_one (ps_ret (pv 5))))))), ?_⟩)
  · obtain ⟨a, ae, s, pn, pm, ns, ms, rfl, _⟩ := h
    rfl
  · obtain ⟨a, ae, s, pn, pm, ns, ms, rfl, hL, g, hn, hm, hf, hl, k⟩ := h
    obtain ⟨x, v, rfl⟩ := len2 hl
    obtain ⟨b1, b2⟩ := fit17 (fits_n hf)
    have hno := fits_m hf
    rw [st17 b1 b2 hno] at k
    unfold namesOk at hno
    simp only [Bool.and_eq_true, decide_eq_true_eq] at hno
    obtain ⟨⟨m1, m2⟩, m3⟩ := hno
    refine q_asgP (evp_vu (ev_var rfl) (ev_num (j := 0) (ev_var rfl) hn rfl) (ev_num (j := 1) (ev_var rfl) hn rfl) hL g) fun v1 H1 e1 ⟨pu, ul, ev, u1, u2, u3⟩ => ?_
    subst ev
    have hulen := fun b => unit_len g b
    have hul := vu_ul u2
    refine q_asgP (evp_lcVu (K := K) (i := 3) (l := effectiveAll s) (fun _ => true) (fun z => V.int (depthR (ofU (effectiveAll s) z.1) (timeT z.2) ms : Int)) rfl u1 u3 (by omega) (fun _ _ => rfl) fun b z H' e' hz hR => ⟨et_yes, fun _ =>
      ev_depth rfl rfl rfl hR (hulen _) (ex_l (e1.trans e') hm)⟩) fun v2 H2 e2 ⟨pd, ev, f1⟩ => ?_
    subst ev
    have e12 := e1.trans e2
    rw [filter_all, u2, out_nat] at f1
    have f1 : H2 pd = some (.lst (natI (depthsR (effectiveAll s) x v ms))) := f1
    have hvl : (depthsR (effectiveAll s) x v ms).length ≤ 100 := by
      unfold depthsR
      rw [List.length_map]
      exact vu_len _ _ _
    generalize depthsR (effectiveAll s) x v ms = l at f1 k hvl
    have hm2 := ex_l e12 hm
    refine q_asgL (el_lst (ea_cons (ev_len (ev_var rfl) hm2) ea_nil) (by show 1 ≤ 100000; decide)) fun fd H3 nf e3 hf3 => ?_
    rw [natI_len2] at hf3
    have hlen3 : ∀ {σ' : L2.St} H', Ex H2 H' → σ'[2]? = some (some (.ref pm)) → Ev (tCB (rLenS K) (tCons (tVar 2) tNil)) σ' H' (.int (ms.length : Int)) := fun H' e hv => by
      rw [← natI_len2 ms]
      exact ev_len (ev_var hv) (ex_l e hm2)
    refine s_forR2 (lo := 1) (n := (ms.length : Int) + 1) (ea_cons ev_c (ea_cons (ev_op (hlen3 H3 e3 rfl) ev_c rv_I0) ea_nil)) (by omega) (fun i σ' H' => ∃ z, σ' = [some (.ref a), some (.ref pn), some (.ref pm), some (.ref pu), some (.ref pd), some (.ref fd), z, none, none, none] ∧ Ex H2 H' ∧
      H' fd = some (.lst (.int (ms.length : Int) :: natI ((List.range i).map fun k => (l.filter fun d => decide (k + 1 ≤ d)).length)))) (fun H4 e4 => ⟨_, rfl, e3.trans e4, e4 _ _ hf3⟩) ?_ ?_
    · rintro i σ' H' hi ⟨z, rfl, w1, w2⟩
      refine s_app w2 (ev_var rfl) (ev_lenP (evp_lcI (i := 4) (fun d => decide (i + 1 ≤ d)) (fun d => V.int (d : Int)) rfl (sq_of (w1 _ _ f1)) (by omega) (fun _ => rfl) fun n hn H5 e5 => ⟨et_is (et_test (ev_op (ev_var rfl) (ev_var rfl) rv_I0)) (dec_is (by omega)), fun _ => ev_var rfl⟩)) ?_ fun H5 e5 => ⟨_, rfl, Ex.mut (w1.trans e5) nf, ?_⟩
      · rw [List.length_cons, natI_len2, List.length_map, List.length_range]
        omega
      · rw [upd_same, range_snoc, natI_snoc, List.length_map]
        rfl
    · rintro σ' H' ⟨z, rfl, w1, w2⟩
      rw [show ((ms.length : Int) + 1 - 1).toNat = ms.length by omega] at w2
      have hk : RetP (ResL (((ms.length : Int) :: nI ((List.range ms.length).map fun k => (l.filter fun d => decide (k + 1 ≤ d)).length)).map V.int)) H' Q := (k.mono (e12.trans w1)).ro rfl (hL.mono (e12.trans w1)) g
      refine s_ret (σ := [some (.ref a), some (.ref pn), some (.ref pm), some (.ref pu), some (.ref pd), some (.ref fd), z, none, none, none]) (ev_var rfl) fun H5 e5 => hk (.ref fd) H5 e5 ⟨fd, rfl, ?_⟩
      rw [e5 _ _ w2, List.map_cons, nI_V]
/-! ### retention -/
abbrev s_retention : Stmt := top 51
theorem sc_retention : FnScope ["ledger", "numbers", "names", "experiment", "variant", "length", "periods", "units", "found", "period", "rows", "start"] ["ledger", "numbers", "names"] (defScope s_retention) := ⟨rfl, rfl, rfl, by decide +kernel, rfl, by decide +kernel, by decide +kernel⟩
theorem fit18 {x v d p : Nat} (h : fitsN 18 [x, v, d, p] = true) : x ≤ 7 ∧ v ≤ 3 ∧ 1 ≤ d ∧ d ≤ 100000 ∧ 1 ≤ p ∧ p ≤ 10 := by
  have := h
  simp [fitsN, codes, fitC, mostOf] at this
  omega
theorem ok_retention (T : Txt K w mg A) (F : FunH K mg "retention" s_retention ["ledger", "numbers", "names"]) (G_variant_units : Has P w K mg base 8 "variant_units" (spVu K A)) (G_is_active : Has P w K mg base 2 "is_active" (spActive K)) :
    Has P w K mg base 10 "retention" (spDeed K A 18) := by
  refine F.ok sc_retention (fun vs H Q E h => ?_) (fun f cdv Ar outer s H vs Q E hr h => ⟨_, (pss_cons (ps_asg (pv 1) (pg_unl (by rfl) (pgs_cons (pg_name (i := 3) sc_retention.nd rfl (by first | exact Or.inl rfl | exact Or.inr rfl)) (pgs_cons (pg_name (i := 4) sc_retention.nd rfl (by first | exact Or.inl rfl | exact Or.inr rfl)) (pgs_cons (pg_name (i := 5) sc_retention.nd rfl (by first | exact Or.inl rfl | exact Or.inr rfl)) (pgs_cons (pg_name (i := 6) sc_retention.nd rfl (by first | exact Or.inl rfl | exact Or.inr rfl)) pgs_nil))))))   (pss_cons (ps_set (i := 7) sc_retention.nd rfl (by first | exact Or.inl rfl | exact Or.inr rfl) (pe_callH G_variant_units (hr.mono (by decide)) (by rfl) (pa_cons (pv 0) (pa_cons (pv 3) (pa_cons (pv 4) pa_nil)))))   (pss_cons (ps_set (i := 8) sc_retention.nd rfl (by first | exact Or.inl rfl | exact Or.inr rfl) (pe_lst (pa_cons (pv 6) pa_nil)))   (pss_cons (ps_for PassesOwn.never rfl (pi_range1 (by rfl) T.n_range (pa_cons (pv 6) pa_nil)) (pg_name (i := 9) sc_retention.nd rfl (by first | exact Or.inl rfl | exact Or.inr rfl)) (pss_one (ps_expr (pe_bm PySem.F.plainAttrs_list PySem.F.slot_list_append PySem.F.type_list_append mt_append (pv 8) (pa_cons (pe_callB call_len_seq (by rfl) T.n_len PySem.boot_len (pa_cons (pe_lc (own := [("rows", 10), ("start", 11)]) (g := (gTup K 2 (gCons (gName 10) (gCons (gName 11) gNil)))) (tt := (tB (tCall (spActive K) [] E0 (tCons (tVar 10) (tCons (tVar 11) (tCons (tVar 5) (tCons (tVar 9) tNil))))))) (te := (tC (.bl true))) (by rfl) sc_retention.nd (pi_list (pv 7)) (blkOk_by (own := [("rows", 10), ("start", 11)]) (N := ["ledger", "numbers", "names", "experiment", "variant", "length", "periods", "units", "found", "period", "rows", "start"]) (sc := defScope s_retention) (by decide +kernel)) (fun _ _ _ _ _ => by exact (pg_tup (by rfl) (pgs_cons (pg_name (i := 10) sc_retention.nd rfl (by first | exact Or.inl rfl | exact Or.inr rfl)) (pgs_cons (pg_name (i := 11) sc_retention.nd rfl (by first | exact Or.inl rfl | exact Or.inr rfl)) pgs_nil)))) (fun _ _ _ _ _ => by exact pts_one (pt_val (pe_callH G_is_active (hr.mono (by decide)) (by rfl) (pa_cons (pv 10) (pa_cons (pv 11) (pa_cons (pv 5) (pa_cons (pv 9) pa_nil))))))) (fun _ _ _ _ _ => by exact pe_bl)) pa_nil)) pa_nil)))))   (pss_one (ps_ret (pv 8))))))), ?_⟩)
  · obtain ⟨a, ae, s, pn, pm, ns, ms, rfl, _⟩ := h
    rfl
  · obtain ⟨a, ae, s, pn, pm, ns, ms, rfl, hL, g, hn, hm, hf, hl, k⟩ := h
    obtain ⟨x, v, d, p, rfl⟩ := len4 hl
    obtain ⟨b1, b2, b3, b4, b5, b6⟩ := fit18 (fits_n hf)
    rw [st18 b1 b2 b3 b4 b5 b6] at k
    refine q_unl4 rfl hn ?_
    refine q_asgP (evp_vu (ev_var rfl) (ev_var rfl) (ev_var rfl) hL g) fun v1 H1 e1 ⟨pu, ul, ev, u1, u2, u3⟩ => ?_
    subst ev
    have hulen := fun b => unit_len g b
    have hul := vu_ul u2
    refine q_asgL (el_lst (ea_cons (ev_var rfl) ea_nil) (by show 1 ≤ 100000; decide)) fun fd H3 nf e3 hf3 => ?_
    refine s_forR1 (n := (p : Int)) (ea_cons (ev_var rfl) ea_nil) (by omega) (fun i σ' H' => ∃ z, σ' = [some (.ref a), some (.ref pn), some (.ref pm), some (.int (x : Int)), some (.int (v : Int)), some (.int (d : Int)), some (.int (p : Int)), some (.ref pu), some (.ref fd), z, none, none] ∧ Ex H1 H' ∧
      H' fd = some (.lst (.int (p : Int) :: natI ((List.range i).map fun k => (activesR (effectiveAll s) x v d k).length)))) (fun H4 e4 => ⟨_, rfl, e3.trans e4, e4 _ _ hf3⟩) ?_ ?_
    · rintro i σ' H' hi ⟨z, rfl, w1, w2⟩
      refine s_app w2 (ev_var rfl) (ev_lenP (evp_lcVu (K := K) (i := 7) (l := effectiveAll s) (fun y => activeR (ofU (effectiveAll s) y.1) (timeT y.2) d i) (fun _ => V.bl true) rfl (w1 _ _ u1) (fun y hy => ⟨w1 _ _ (u3 y hy).1, (u3 y hy).2.mono w1⟩) (by omega) (fun _ _ => rfl) fun b y H5 e5 hy hR =>
        ⟨et_B (ev_active rfl rfl rfl rfl hR (hulen _) (by omega)), fun _ => ev_c⟩)) ?_ fun H5 e5 => ⟨_, rfl, Ex.mut (w1.trans e5) nf, ?_⟩
      · rw [List.length_cons, natI_len2, List.length_map, List.length_range]
        omega
      · rw [upd_same, range_snoc, natI_snoc, List.length_map, u2]
        rfl
    · rintro σ' H' ⟨z, rfl, w1, w2⟩
      rw [show ((p : Int)).toNat = p by omega] at w2
      have hk : RetP (ResL (((p : Int) :: nI ((List.range p).map fun k => (activesR (effectiveAll s) x v d k).length)).map V.int)) H' Q := (k.mono (e1.trans w1)).ro rfl (hL.mono (e1.trans w1)) g
      refine s_ret (σ := [some (.ref a), some (.ref pn), some (.ref pm), some (.int (x : Int)), some (.int (v : Int)), some (.int (d : Int)), some (.int (p : Int)), some (.ref pu), some (.ref fd), z, none, none]) (ev_var rfl) fun H5 e5 => hk (.ref fd) H5 e5 ⟨fd, rfl, ?_⟩
      rw [e5 _ _ w2, List.map_cons, nI_V]
end
end Late

/-! LateD: what is answered to a call whose numbers are out of their ranges, or ahead of any store. Plain Lean. -/
namespace Late
open Kex3
theorem fits_or {c : Nat} {ns ms : List Nat} (h : fits c ns ms = false) : fitsN c ns = false ∨ (c = 17 ∧ namesOk ms = false) := by
  unfold fits at h
  cases h1 : fitsN c ns with
  | false => exact .inl rfl
  | true =>
    rw [h1] at h
    right
    simpa using h
theorem fits_no {c : Nat} {ns ms : List Nat} (h : fits c ns ms = false) (hc : c ≠ 17) : fitsN c ns = false := (fits_or h).resolve_right fun q => hc q.1
theorem op_cases {c : Nat} (h1 : 1 ≤ c) (h2 : c ≤ 23) {p : Nat → Prop} (a1 : p 1) (a2 : p 2) (a3 : p 3) (a4 : p 4) (a5 : p 5) (a6 : p 6) (a7 : p 7) (a8 : p 8) (a9 : p 9) (a10 : p 10) (a11 : p 11) (a12 : p 12) (a13 : p 13) (a14 : p 14) (a15 : p 15) (a16 : p 16) (a17 : p 17) (a18 : p 18) (a19 : p 19) (a20 : p 20) (a21 : p 21) (a22 : p 22) (a23 : p 23) : p c := by
  have h : c = 1 ∨ c = 2 ∨ c = 3 ∨ c = 4 ∨ c = 5 ∨ c = 6 ∨ c = 7 ∨ c = 8 ∨ c = 9 ∨ c = 10 ∨ c = 11 ∨ c = 12 ∨ c = 13 ∨ c = 14 ∨ c = 15 ∨ c = 16 ∨ c = 17 ∨ c = 18 ∨ c = 19 ∨ c = 20 ∨ c = 21 ∨ c = 22 ∨ c = 23 := by omega
  rcases h with rfl | rfl | rfl | rfl | rfl | rfl | rfl | rfl | rfl | rfl | rfl | rfl | rfl | rfl | rfl | rfl | rfl | rfl | rfl | rfl | rfl | rfl | rfl <;> assumption
theorem step_none {c : Nat} {ns ms : List Nat} (h1 : 1 ≤ c) (h2 : c ≤ 23) (hl : ns.length = lenOf c) : stepN none c ns ms = (none, [-11]) := by
  revert hl
  refine op_cases h1 h2 (p := fun c => ns.length = lenOf c → stepN none c ns ms = (none, [-11])) ?_ ?_ ?_ ?_ ?_ ?_ ?_ ?_ ?_ ?_ ?_ ?_ ?_ ?_ ?_ ?_ ?_ ?_ ?_ ?_ ?_ ?_ ?_ <;> intro hl
  · obtain ⟨a, rfl⟩ := len1 hl
    rw [rq1]
    rfl
  · obtain ⟨a, b, d, e, f, rfl⟩ := len5 hl
    rw [rq2]
    rfl
  · obtain ⟨a, b, d, e, f, rfl⟩ := len5 hl
    rw [rq3]
    rfl
  · obtain ⟨a, rfl⟩ := len1 hl
    rw [rq4]
    rfl
  · obtain ⟨a, rfl⟩ := len1 hl
    rw [rq5]
    rfl
  · obtain ⟨a, rfl⟩ := len1 hl
    rw [rq6]
    rfl
  · have := len0 hl
    subst this
    rfl
  · have := len0 hl
    subst this
    rfl
  · obtain ⟨a, rfl⟩ := len1 hl
    rw [rq9]
    rfl
  · obtain ⟨a, rfl⟩ := len1 hl
    rw [rq10]
    rfl
  · obtain ⟨a, b, rfl⟩ := len2 hl
    rw [rq11]
    rfl
  · obtain ⟨a, rfl⟩ := len1 hl
    rw [rq12]
    rfl
  · obtain ⟨a, b, rfl⟩ := len2 hl
    rw [rq13]
    rfl
  · obtain ⟨a, rfl⟩ := len1 hl
    rw [rq14]
    rfl
  · obtain ⟨a, b, d, e, f, g, rfl⟩ := len6 hl
    rw [rq15]
    rfl
  · obtain ⟨a, b, d, e, f, g, rfl⟩ := len6 hl
    rw [rq16]
    rfl
  · obtain ⟨a, b, rfl⟩ := len2 hl
    rw [rq17]
    rfl
  · obtain ⟨a, b, d, e, rfl⟩ := len4 hl
    rw [rq18]
    rfl
  · obtain ⟨a, b, rfl⟩ := len2 hl
    rw [rq19]
    rfl
  · obtain ⟨a, rfl⟩ := len1 hl
    rw [rq20]
    rfl
  · obtain ⟨a, b, rfl⟩ := len2 hl
    rw [rq21]
    rfl
  · obtain ⟨a, b, rfl⟩ := len2 hl
    rw [rq22]
    rfl
  · have := len0 hl
    subst this
    rfl
section
variable {s : Store} {ms : List Nat}
theorem no_of {q : Kex3.Request} (h : Kex3.step (some s) q = (some s, .value (-22))) : ((Kex3.step (some s) q).1, Kex3Neutral.fields (Kex3.step (some s) q).2) = (some s, [-22]) := by
  rw [h]
  rfl
theorem cond_t {p : Prop} [Decidable p] {α : Type} {a b : α} (h : p) : (if p then a else b) = a := if_pos h
theorem pair_t {p : Prop} [Decidable p] {α β : Type} {z : α} {a b : β} (h : p) : (z, if p then a else b) = (z, a) := by rw [if_pos h]
theorem metric_no {y e c d : Nat} (h : ¬ (y ≤ 2 ∧ e ≤ 9 ∧ c ≤ 100000 ∧ 1 ≤ d ∧ d ≤ 100000)) : isMetric y e c d = false := by
  rw [Bool.eq_false_iff]
  intro q
  unfold isMetric maxEvent maxTime at q
  simp only [Bool.and_eq_true, decide_eq_true_eq] at q
  omega
theorem step_unfit {c : Nat} {ns : List Nat} (h1 : 1 ≤ c) (h2 : c ≤ 23) (hl : ns.length = lenOf c) (hn : ∀ n ∈ ns, n ≤ 4294967295) (hf : fits c ns ms = false) : stepN (some s) c ns ms = (some s, [-22]) := by
  revert hl hf
  refine op_cases h1 h2 (p := fun c => ns.length = lenOf c → fits c ns ms = false → stepN (some s) c ns ms = (some s, [-22])) ?_ ?_ ?_ ?_ ?_ ?_ ?_ ?_ ?_ ?_ ?_ ?_ ?_ ?_ ?_ ?_ ?_ ?_ ?_ ?_ ?_ ?_ ?_ <;> intro hl hf
  · obtain ⟨a, rfl⟩ := len1 hl
    have := fits_no hf (by decide)
    have := hn a (by simp)
    simp [fitsN, codes, fitC, mostOf] at *
    omega
  · obtain ⟨a, b, d, e, f, rfl⟩ := len5 hl
    have h := fits_no hf (by decide)
    rw [rq2]
    simp [fitsN, codes, fitC, mostOf] at h
    exact no_of (cond_t (by unfold maxId maxUnit maxExperiment maxVariant maxTime; omega))
  · obtain ⟨a, b, d, e, f, rfl⟩ := len5 hl
    have h := fits_no hf (by decide)
    rw [rq3]
    simp [fitsN, codes, fitC, mostOf] at h
    exact no_of (cond_t (by unfold maxId maxUnit maxEvent maxValue maxTime; omega))
  · obtain ⟨a, rfl⟩ := len1 hl
    have h := fits_no hf (by decide)
    rw [rq4]
    simp [fitsN, codes, fitC, mostOf] at h
    exact no_of (cond_t (by unfold maxId; omega))
  · obtain ⟨a, rfl⟩ := len1 hl
    have h := fits_no hf (by decide)
    rw [rq5]
    simp [fitsN, codes, fitC, mostOf] at h
    exact no_of (cond_t (by unfold maxTime; omega))
  · obtain ⟨a, rfl⟩ := len1 hl
    have h := fits_no hf (by decide)
    rw [rq6]
    simp [fitsN, codes, fitC, mostOf] at h
    exact no_of (cond_t (by unfold maxTime; omega))
  · have := len0 hl
    subst this
    exact absurd (fits_no hf (by decide)) (by decide)
  · have := len0 hl
    subst this
    exact absurd (fits_no hf (by decide)) (by decide)
  · obtain ⟨a, rfl⟩ := len1 hl
    have := fits_no hf (by decide)
    have := hn a (by simp)
    simp [fitsN, codes, fitC, mostOf] at *
    omega
  · obtain ⟨a, rfl⟩ := len1 hl
    have h := fits_no hf (by decide)
    rw [rq10]
    simp [fitsN, codes, fitC, mostOf] at h
    exact no_of (pair_t (by unfold maxId; omega))
  · obtain ⟨a, b, rfl⟩ := len2 hl
    have h := fits_no hf (by decide)
    rw [rq11]
    simp [fitsN, codes, fitC, mostOf] at h
    exact no_of (pair_t (by unfold maxExperiment maxUnit; omega))
  · obtain ⟨a, rfl⟩ := len1 hl
    have h := fits_no hf (by decide)
    rw [rq12]
    simp [fitsN, codes, fitC, mostOf] at h
    exact no_of (pair_t (by unfold maxExperiment; omega))
  · obtain ⟨a, b, rfl⟩ := len2 hl
    have h := fits_no hf (by decide)
    rw [rq13]
    simp [fitsN, codes, fitC, mostOf] at h
    exact no_of (pair_t (by unfold maxExperiment maxVariant; omega))
  · obtain ⟨a, rfl⟩ := len1 hl
    have h := fits_no hf (by decide)
    rw [rq14]
    simp [fitsN, codes, fitC, mostOf] at h
    exact no_of (pair_t (by unfold maxExperiment; omega))
  · obtain ⟨a, b, d, e, f, g, rfl⟩ := len6 hl
    have h := fits_no hf (by decide)
    rw [rq15]
    simp [fitsN, codes, fitC, mostOf] at h
    refine no_of (pair_t ?_)
    by_cases q1 : a ≤ 7
    · by_cases q2 : b ≤ 99
      · exact .inr (.inr (metric_no fun q => by omega))
      · exact .inr (.inl (by unfold maxUnit; omega))
    · exact .inl (by unfold maxExperiment; omega)
  · obtain ⟨a, b, d, e, f, g, rfl⟩ := len6 hl
    have h := fits_no hf (by decide)
    rw [rq16]
    simp [fitsN, codes, fitC, mostOf] at h
    refine no_of (pair_t ?_)
    by_cases q1 : a ≤ 7
    · by_cases q2 : b ≤ 3
      · exact .inr (.inr (metric_no fun q => by omega))
      · exact .inr (.inl (by unfold maxVariant; omega))
    · exact .inl (by unfold maxExperiment; omega)
  · obtain ⟨a, b, rfl⟩ := len2 hl
    rw [rq17]
    refine no_of (pair_t ?_)
    rcases fits_or hf with h | ⟨_, h⟩
    · simp [fitsN, codes, fitC, mostOf] at h
      by_cases q1 : a ≤ 7
      · exact .inr (.inl (by unfold maxVariant; omega))
      · exact .inl (by unfold maxExperiment; omega)
    · right
      right
      by_cases q1 : ms.length = 0
      · exact .inl (by rw [List.eq_nil_of_length_eq_zero q1]; rfl)
      · by_cases q2 : ms.length ≤ 6
        · right
          right
          rw [Bool.eq_false_iff] at h
          cases q : ms.any fun e => decide (maxEvent < e) with
          | true => rfl
          | false =>
            refine absurd ?_ h
            unfold namesOk
            rw [List.any_eq_false] at q
            simp only [Bool.and_eq_true, decide_eq_true_eq, List.all_eq_true]
            refine ⟨⟨by omega, q2⟩, fun n hn => ?_⟩
            have := q n hn
            unfold maxEvent at this
            simp at this
            omega
        · exact .inr (.inl (by omega))
  · obtain ⟨a, b, d, e, rfl⟩ := len4 hl
    have h := fits_no hf (by decide)
    rw [rq18]
    simp [fitsN, codes, fitC, mostOf] at h
    exact no_of (pair_t (by unfold maxExperiment maxVariant maxTime; omega))
  · obtain ⟨a, b, rfl⟩ := len2 hl
    have h := fits_no hf (by decide)
    rw [rq19]
    simp [fitsN, codes, fitC, mostOf] at h
    exact no_of (pair_t (by unfold maxUnit maxTime; omega))
  · obtain ⟨a, rfl⟩ := len1 hl
    have h := fits_no hf (by decide)
    rw [rq20]
    simp [fitsN, codes, fitC, mostOf] at h
    exact no_of (pair_t (by unfold maxUnit; omega))
  · obtain ⟨a, b, rfl⟩ := len2 hl
    have h := fits_no hf (by decide)
    rw [rq21]
    simp [fitsN, codes, fitC, mostOf] at h
    exact no_of (pair_t (by unfold maxExperiment; omega))
  · obtain ⟨a, b, rfl⟩ := len2 hl
    have h := fits_no hf (by decide)
    rw [rq22]
    simp [fitsN, codes, fitC, mostOf] at h
    exact no_of (pair_t (by unfold maxExperiment; omega))
  · have := len0 hl
    subst this
    exact absurd (fits_no hf (by decide)) (by decide)
end
end Late

/-! LateE: the calls read from one list of numbers. Plain Lean. -/
namespace Late
open Kex3
structure CallOk (c : Nat) (ns ms : List Nat) : Prop where
  op : c ≤ 23
  len : ns.length = lenOf c
  le : ∀ n ∈ ns, n ≤ 4294967295
  no : c ≠ 17 → ms = []
/-- a call as the list has it -/
def enc (c : Nat) (ns ms : List Nat) : List Int := (c : Int) :: (nI ns ++ if c = 17 then (ms.length : Int) :: nI ms else [])
theorem lenA0 {α : Type} {l : List α} (h : l.length = 0) : l = [] := List.eq_nil_of_length_eq_zero h
theorem lenA1 {α : Type} {l : List α} (h : l.length = 1) : ∃ a, l = [a] := match l, h with | [a], _ => ⟨a, rfl⟩
theorem lenA2 {α : Type} {l : List α} (h : l.length = 2) : ∃ a b, l = [a, b] := match l, h with | [a, b], _ => ⟨a, b, rfl⟩
theorem lenA4 {α : Type} {l : List α} (h : l.length = 4) : ∃ a b c d, l = [a, b, c, d] := match l, h with | [a, b, c, d], _ => ⟨a, b, c, d, rfl⟩
theorem lenA5 {α : Type} {l : List α} (h : l.length = 5) : ∃ a b c d e, l = [a, b, c, d, e] := match l, h with | [a, b, c, d, e], _ => ⟨a, b, c, d, e, rfl⟩
theorem lenA6 {α : Type} {l : List α} (h : l.length = 6) : ∃ a b c d e f, l = [a, b, c, d, e, f] := match l, h with | [a, b, c, d, e, f], _ => ⟨a, b, c, d, e, f, rfl⟩
theorem nat32_is {z : Int} (h : Kex3Neutral.nat32 z = true) : ∃ n : Nat, z = (n : Int) ∧ n ≤ 4294967295 := by
  unfold Kex3Neutral.nat32 at h
  simp only [Bool.and_eq_true, decide_eq_true_eq] at h
  exact ⟨z.toNat, by omega, by omega⟩
theorem nat32_all : ∀ {l : List Int}, (l.all Kex3Neutral.nat32) = true → ∃ ns : List Nat, l = nI ns ∧ ∀ n ∈ ns, n ≤ 4294967295
  | [], _ => ⟨[], rfl, fun n h => absurd h (by simp)⟩
  | z :: l, h => by
    rw [List.all_cons, Bool.and_eq_true] at h
    obtain ⟨n, rfl, hn⟩ := nat32_is h.1
    obtain ⟨ns, rfl, hns⟩ := nat32_all h.2
    exact ⟨n :: ns, rfl, fun m hm => by
      rcases List.mem_cons.mp hm with e | q
      · rw [e]
        exact hn
      · exact hns m q⟩
/-- what one call is -/
def IsCall (p : Int) (r t : List Int) (cr : List (List Int)) : Prop := ∃ c ns ms, CallOk c ns ms ∧ p :: r = enc c ns ms ++ t ∧ PyKex3.whole cr = rowOf c ns ms
theorem call0 {p : Int} {r t : List Int} {n : Nat} {cr : List (List Int)} (hs : PyKex3.shape p = some (n, 0)) (h : PyFlat.call PyKex3.shape (p :: r) = some (cr, t)) : n ≤ r.length ∧ cr = [p :: r.take n] ∧ t = r.drop n := by
  unfold PyFlat.call at h
  dsimp only at h
  rw [hs] at h
  dsimp only at h
  by_cases c : r.length < n
  · rw [if_pos c] at h
    cases h
  · rw [if_neg c] at h
    simp only [PyFlat.rows, Option.some.injEq, Prod.mk.injEq] at h
    exact ⟨by omega, h.1.symm, h.2.symm⟩
theorem one {c n : Nat} {r t : List Int} {cr : List (List Int)} (h17 : c ≠ 17) (hc : c ≤ 23) (hs : PyKex3.shape (c : Int) = some (n, 0)) (hl : lenOf c = n) (hw : ∀ l : List Int, l.length = n → Kex3Neutral.asked1 (PyKex3.whole [(c : Int) :: l]) = l.all Kex3Neutral.nat32 ∧ PyKex3.whole [(c : Int) :: l] = [(c : Int) :: l])
    (h : PyFlat.call PyKex3.shape ((c : Int) :: r) = some (cr, t)) (ha : Kex3Neutral.asked1 (PyKex3.whole cr) = true) : IsCall (c : Int) r t cr := by
  obtain ⟨h1, rfl, rfl⟩ := call0 hs h
  have hlen : (r.take n).length = n := by
    rw [List.length_take]
    omega
  obtain ⟨w1, w2⟩ := hw _ hlen
  rw [w1] at ha
  obtain ⟨ns, e, hn⟩ := nat32_all ha
  refine ⟨c, ns, [], ⟨hc, ?_, hn, fun _ => rfl⟩, ?_, ?_⟩
  · rw [hl, ← hlen, e]
    unfold nI
    rw [List.length_map]
  · unfold enc
    rw [if_neg h17, List.append_nil, ← e, List.cons_append, List.take_append_drop]
  · rw [w2, e]
    unfold rowOf
    rw [if_neg h17]
theorem w0 {c : Nat} (h : Kex3Neutral.asked1 (PyKex3.whole [[(c : Int)]]) = true) (h2 : PyKex3.whole [[(c : Int)]] = [[(c : Int)]]) (l : List Int) (hl : l.length = 0) : Kex3Neutral.asked1 (PyKex3.whole [(c : Int) :: l]) = l.all Kex3Neutral.nat32 ∧ PyKex3.whole [(c : Int) :: l] = [(c : Int) :: l] := by
  rw [lenA0 hl]
  exact ⟨h, h2⟩
theorem w1 {c : Nat} (h : ∀ a, Kex3Neutral.asked1 (PyKex3.whole [[(c : Int), a]]) = Kex3Neutral.nat32 a ∧ PyKex3.whole [[(c : Int), a]] = [[(c : Int), a]]) (l : List Int) (hl : l.length = 1) : Kex3Neutral.asked1 (PyKex3.whole [(c : Int) :: l]) = l.all Kex3Neutral.nat32 ∧ PyKex3.whole [(c : Int) :: l] = [(c : Int) :: l] := by
  obtain ⟨a, rfl⟩ := lenA1 hl
  refine ⟨(h a).1.trans ?_, (h a).2⟩
  simp
theorem w2 {c : Nat} (h : ∀ a b, Kex3Neutral.asked1 (PyKex3.whole [[(c : Int), a, b]]) = (Kex3Neutral.nat32 a && Kex3Neutral.nat32 b) ∧ PyKex3.whole [[(c : Int), a, b]] = [[(c : Int), a, b]]) (l : List Int) (hl : l.length = 2) :
    Kex3Neutral.asked1 (PyKex3.whole [(c : Int) :: l]) = l.all Kex3Neutral.nat32 ∧ PyKex3.whole [(c : Int) :: l] = [(c : Int) :: l] := by
  obtain ⟨a, b, rfl⟩ := lenA2 hl
  refine ⟨(h a b).1.trans ?_, (h a b).2⟩
  simp
theorem w4 {c : Nat} (h : ∀ a b d e, Kex3Neutral.asked1 (PyKex3.whole [[(c : Int), a, b, d, e]]) = (Kex3Neutral.nat32 a && Kex3Neutral.nat32 b && Kex3Neutral.nat32 d && Kex3Neutral.nat32 e) ∧ PyKex3.whole [[(c : Int), a, b, d, e]] = [[(c : Int), a, b, d, e]]) (l : List Int) (hl : l.length = 4) :
    Kex3Neutral.asked1 (PyKex3.whole [(c : Int) :: l]) = l.all Kex3Neutral.nat32 ∧ PyKex3.whole [(c : Int) :: l] = [(c : Int) :: l] := by
  obtain ⟨a, b, d, e, rfl⟩ := lenA4 hl
  refine ⟨(h a b d e).1.trans ?_, (h a b d e).2⟩
  simp [Bool.and_assoc]
theorem w5 {c : Nat} (h : ∀ a b d e f, Kex3Neutral.asked1 (PyKex3.whole [[(c : Int), a, b, d, e, f]]) = (Kex3Neutral.nat32 a && Kex3Neutral.nat32 b && Kex3Neutral.nat32 d && Kex3Neutral.nat32 e && Kex3Neutral.nat32 f) ∧ PyKex3.whole [[(c : Int), a, b, d, e, f]] = [[(c : Int), a, b, d, e, f]]) (l : List Int) (hl : l.length = 5) :
    Kex3Neutral.asked1 (PyKex3.whole [(c : Int) :: l]) = l.all Kex3Neutral.nat32 ∧ PyKex3.whole [(c : Int) :: l] = [(c : Int) :: l] := by
  obtain ⟨a, b, d, e, f, rfl⟩ := lenA5 hl
  refine ⟨(h a b d e f).1.trans ?_, (h a b d e f).2⟩
  simp [Bool.and_assoc]
theorem w6 {c : Nat} (h : ∀ a b d e f g, Kex3Neutral.asked1 (PyKex3.whole [[(c : Int), a, b, d, e, f, g]]) = (Kex3Neutral.nat32 a && Kex3Neutral.nat32 b && Kex3Neutral.nat32 d && Kex3Neutral.nat32 e && Kex3Neutral.nat32 f && Kex3Neutral.nat32 g) ∧ PyKex3.whole [[(c : Int), a, b, d, e, f, g]] = [[(c : Int), a, b, d, e, f, g]]) (l : List Int) (hl : l.length = 6) :
    Kex3Neutral.asked1 (PyKex3.whole [(c : Int) :: l]) = l.all Kex3Neutral.nat32 ∧ PyKex3.whole [(c : Int) :: l] = [(c : Int) :: l] := by
  obtain ⟨a, b, d, e, f, g, rfl⟩ := lenA6 hl
  refine ⟨(h a b d e f g).1.trans ?_, (h a b d e f g).2⟩
  simp [Bool.and_assoc]
theorem one17 {r t : List Int} {cr : List (List Int)} (h : PyFlat.call PyKex3.shape (17 :: r) = some (cr, t)) (ha : Kex3Neutral.asked1 (PyKex3.whole cr) = true) : IsCall 17 r t cr := by
  unfold PyFlat.call at h
  dsimp only at h
  have hs : PyKex3.shape 17 = some (2, 1) := by decide
  rw [hs] at h
  dsimp only at h
  by_cases c : r.length < 2
  · rw [if_pos c] at h
    cases h
  · rw [if_neg c] at h
    match r, c with
    | [], c => simp at c
    | [_], c => simp at c
    | a :: b :: [], _ => simp [PyFlat.rows, PyFlat.row] at h
    | a :: b :: n :: r', _ =>
      simp only [PyFlat.rows, PyFlat.row, List.drop_succ_cons, List.drop_zero, List.take_succ_cons, List.take_zero] at h
      by_cases q : 0 ≤ n ∧ n.toNat ≤ r'.length
      · rw [if_pos q] at h
        dsimp only at h
        simp only [Option.some.injEq, Prod.mk.injEq] at h
        obtain ⟨rfl, rfl⟩ := h
        have ha : (Kex3Neutral.nat32 a && Kex3Neutral.nat32 b && Kex3Neutral.list32 Kex3Neutral.nat32 (r'.take n.toNat)) = true := ha
        simp only [Bool.and_eq_true] at ha
        obtain ⟨⟨ha1, ha2⟩, ha3⟩ := ha
        obtain ⟨x, rfl, hx⟩ := nat32_is ha1
        obtain ⟨y, rfl, hy⟩ := nat32_is ha2
        unfold Kex3Neutral.list32 at ha3
        obtain ⟨ms, e, hms⟩ := nat32_all (Bool.and_eq_true_iff.mp ha3).1
        have hlen : (ms.length : Int) = n := by
          have := congrArg List.length e
          unfold nI at this
          rw [List.length_take, List.length_map] at this
          omega
        refine ⟨17, [x, y], ms, ⟨by decide, rfl, fun m hm => ?_, fun z => absurd rfl z⟩, ?_, ?_⟩
        · simp only [List.mem_cons, List.not_mem_nil, or_false] at hm
          rcases hm with rfl | rfl <;> assumption
        · unfold enc
          rw [if_pos rfl, hlen, ← e]
          show (17 : Int) :: (x : Int) :: (y : Int) :: n :: r' = (17 : Int) :: (x : Int) :: (y : Int) :: n :: (r'.take n.toNat ++ r'.drop n.toNat)
          rw [List.take_append_drop]
        · rw [e]
          rfl
      · rw [if_neg q] at h
        cases h
theorem shape_op {p : Int} {z : Nat × Nat} (hs : PyKex3.shape p = some z) : 0 ≤ p ∧ p ≤ 23 := by
  unfold PyKex3.shape at hs
  by_cases q : 0 ≤ p ∧ p ≤ 23
  · exact q
  · iterate 24 rw [if_neg (by omega)] at hs
    cases hs
theorem one_call {p : Int} {r t : List Int} {cr : List (List Int)} (h : PyFlat.call PyKex3.shape (p :: r) = some (cr, t)) (ha : Kex3Neutral.asked1 (PyKex3.whole cr) = true) : IsCall p r t cr := by
  have hp : 0 ≤ p ∧ p ≤ 23 := by
    cases hs : PyKex3.shape p with
    | none =>
      unfold PyFlat.call at h
      dsimp only at h
      rw [hs] at h
      cases h
    | some z => exact shape_op hs
  have hc : p = 0 ∨ p = 1 ∨ p = 2 ∨ p = 3 ∨ p = 4 ∨ p = 5 ∨ p = 6 ∨ p = 7 ∨ p = 8 ∨ p = 9 ∨ p = 10 ∨ p = 11 ∨ p = 12 ∨ p = 13 ∨ p = 14 ∨ p = 15 ∨ p = 16 ∨ p = 17 ∨ p = 18 ∨ p = 19 ∨ p = 20 ∨ p = 21 ∨ p = 22 ∨ p = 23 := by omega
  rcases hc with rfl | rfl | rfl | rfl | rfl | rfl | rfl | rfl | rfl | rfl | rfl | rfl | rfl | rfl | rfl | rfl | rfl | rfl | rfl | rfl | rfl | rfl | rfl | rfl
  · exact one (c := 0) (n := 1) (by decide) (by decide) (by decide) rfl (w1 fun _ => ⟨rfl, rfl⟩) h ha
  · exact one (c := 1) (n := 1) (by decide) (by decide) (by decide) rfl (w1 fun _ => ⟨rfl, rfl⟩) h ha
  · exact one (c := 2) (n := 5) (by decide) (by decide) (by decide) rfl (w5 fun _ _ _ _ _ => ⟨rfl, rfl⟩) h ha
  · exact one (c := 3) (n := 5) (by decide) (by decide) (by decide) rfl (w5 fun _ _ _ _ _ => ⟨rfl, rfl⟩) h ha
  · exact one (c := 4) (n := 1) (by decide) (by decide) (by decide) rfl (w1 fun _ => ⟨rfl, rfl⟩) h ha
  · exact one (c := 5) (n := 1) (by decide) (by decide) (by decide) rfl (w1 fun _ => ⟨rfl, rfl⟩) h ha
  · exact one (c := 6) (n := 1) (by decide) (by decide) (by decide) rfl (w1 fun _ => ⟨rfl, rfl⟩) h ha
  · exact one (c := 7) (n := 0) (by decide) (by decide) (by decide) rfl (w0 rfl rfl) h ha
  · exact one (c := 8) (n := 0) (by decide) (by decide) (by decide) rfl (w0 rfl rfl) h ha
  · exact one (c := 9) (n := 1) (by decide) (by decide) (by decide) rfl (w1 fun _ => ⟨rfl, rfl⟩) h ha
  · exact one (c := 10) (n := 1) (by decide) (by decide) (by decide) rfl (w1 fun _ => ⟨rfl, rfl⟩) h ha
  · exact one (c := 11) (n := 2) (by decide) (by decide) (by decide) rfl (w2 fun _ _ => ⟨rfl, rfl⟩) h ha
  · exact one (c := 12) (n := 1) (by decide) (by decide) (by decide) rfl (w1 fun _ => ⟨rfl, rfl⟩) h ha
  · exact one (c := 13) (n := 2) (by decide) (by decide) (by decide) rfl (w2 fun _ _ => ⟨rfl, rfl⟩) h ha
  · exact one (c := 14) (n := 1) (by decide) (by decide) (by decide) rfl (w1 fun _ => ⟨rfl, rfl⟩) h ha
  · exact one (c := 15) (n := 6) (by decide) (by decide) (by decide) rfl (w6 fun _ _ _ _ _ _ => ⟨rfl, rfl⟩) h ha
  · exact one (c := 16) (n := 6) (by decide) (by decide) (by decide) rfl (w6 fun _ _ _ _ _ _ => ⟨rfl, rfl⟩) h ha
  · exact one17 h ha
  · exact one (c := 18) (n := 4) (by decide) (by decide) (by decide) rfl (w4 fun _ _ _ _ => ⟨rfl, rfl⟩) h ha
  · exact one (c := 19) (n := 2) (by decide) (by decide) (by decide) rfl (w2 fun _ _ => ⟨rfl, rfl⟩) h ha
  · exact one (c := 20) (n := 1) (by decide) (by decide) (by decide) rfl (w1 fun _ => ⟨rfl, rfl⟩) h ha
  · exact one (c := 21) (n := 2) (by decide) (by decide) (by decide) rfl (w2 fun _ _ => ⟨rfl, rfl⟩) h ha
  · exact one (c := 22) (n := 2) (by decide) (by decide) (by decide) rfl (w2 fun _ _ => ⟨rfl, rfl⟩) h ha
  · exact one (c := 23) (n := 0) (by decide) (by decide) (by decide) rfl (w0 rfl rfl) h ha
abbrev Call := Nat × (List Nat × List Nat)
def encs (xs : List Call) : List Int := xs.flatMap fun x => enc x.1 x.2.1 x.2.2
theorem all_calls : ∀ (f : Nat) (l : List Int) (raw : List (List (List Int))), PyFlat.calls PyKex3.shape f l = some raw → ((raw.map PyKex3.whole).all Kex3Neutral.asked1) = true →
    ∃ xs : List Call, l = encs xs ∧ (∀ x ∈ xs, CallOk x.1 x.2.1 x.2.2) ∧ raw.map PyKex3.whole = xs.map fun x => rowOf x.1 x.2.1 x.2.2
  | f, [], raw, h, _ => by
    have : raw = [] := by
      unfold PyFlat.calls at h
      exact (Option.some.inj h).symm
    subst this
    exact ⟨[], rfl, fun x h => absurd h (by simp), rfl⟩
  | 0, p :: r, raw, h, _ => by
    unfold PyFlat.calls at h
    cases h
  | f + 1, p :: r, raw, h, ha => by
    unfold PyFlat.calls at h
    cases hc : PyFlat.call PyKex3.shape (p :: r) with
    | none =>
      rw [hc] at h
      cases h
    | some z =>
      obtain ⟨c, t⟩ := z
      rw [hc] at h
      dsimp only at h
      cases hr : PyFlat.calls PyKex3.shape f t with
      | none =>
        rw [hr] at h
        cases h
      | some cs =>
        rw [hr] at h
        have : raw = c :: cs := (Option.some.inj h).symm
        subst this
        rw [List.map_cons, List.all_cons, Bool.and_eq_true] at ha
        obtain ⟨xs, h1, h2, h3⟩ := all_calls f t cs hr ha.2
        obtain ⟨k, ns, ms, ok, e1, e2⟩ := one_call hc ha.1
        refine ⟨(k, ns, ms) :: xs, ?_, fun x hx => ?_, ?_⟩
        · rw [e1, h1]
          rfl
        · rcases List.mem_cons.mp hx with e | m
          · rw [e]
            exact ok
          · exact h2 x m
        · rw [List.map_cons, List.map_cons, e2, h3]
/-- what is answered from a state on -/
def outs (st : State) : List Call → List Int
  | [] => []
  | x :: xs => ((stepN st x.1 x.2.1 x.2.2).2.length : Int) :: ((stepN st x.1 x.2.1 x.2.2).2 ++ outs (stepN st x.1 x.2.1 x.2.2).1 xs)
theorem outs_is : ∀ (xs : List Call) (st : State), PyFlat.told (PyFlat.played Kex3Neutral.step st (xs.map fun x => rowOf x.1 x.2.1 x.2.2)) = outs st xs
  | [], st => rfl
  | x :: xs, st => by
    rw [List.map_cons]
    show PyFlat.told ((stepN st x.1 x.2.1 x.2.2).2 :: PyFlat.played Kex3Neutral.step (stepN st x.1 x.2.1 x.2.2).1 (xs.map fun x => rowOf x.1 x.2.1 x.2.2)) = _
    unfold outs
    rw [← outs_is xs]
    rfl
theorem asked_is {l : List Int} (h : PyKex3.answers_asked l = true) : ∃ xs : List Call, l = encs xs ∧ (∀ x ∈ xs, CallOk x.1 x.2.1 x.2.2) ∧ PyKex3.answers l = outs none xs ∧ (outs none xs).length ≤ 10000000 := by
  unfold PyKex3.answers_asked at h
  cases hr : PyFlat.calls PyKex3.shape l.length l with
  | none =>
    rw [hr] at h
    cases h
  | some raw =>
    rw [hr] at h
    simp only [Bool.and_eq_true] at h
    obtain ⟨⟨⟨_, _⟩, h4⟩, h5⟩ := h
    unfold Kex3Neutral.asked at h4
    simp only [Bool.and_eq_true] at h4
    obtain ⟨xs, e1, e2, e3⟩ := all_calls _ _ _ hr h4.1.2.1
    have ea : PyKex3.answers l = outs none xs := by
      unfold PyKex3.answers PyKex3.calls
      rw [hr]
      show PyFlat.told (PyFlat.played Kex3Neutral.step Kex3Neutral.start (raw.map PyKex3.whole)) = _
      rw [e3]
      exact outs_is xs none
    refine ⟨xs, e1, e2, ea, ?_⟩
    rw [← ea]
    exact of_decide_eq_true h5
end Late

/-! D19: is_fit, are_names, answer. -/
namespace Late
open PySem PySem.Spec PyProof.Rows L2 Evl
open Kex3 (Record Content Store effectiveAll Metric)
def codeL : List Nat := [105, 117, 120, 118, 101, 119, 116, 121, 99, 100, 112, 103, 110]
theorem most_in {c : Nat} (h : c ∈ codeL) : (c, (mostOf c : Int)) ∈ mostL := by
  simp only [codeL, List.mem_cons, List.not_mem_nil, or_false] at h
  rcases h with rfl | rfl | rfl | rfl | rfl | rfl | rfl | rfl | rfl | rfl | rfl | rfl | rfl <;> decide
theorem codes_in : ∀ c, ∀ x ∈ codes.getD c [], x ∈ codeL := by
  intro c
  by_cases h : c < 24
  · have : ∀ c, c < 24 → ∀ x ∈ codes.getD c [], x ∈ codeL := by decide
    exact this c h
  · intro x hx
    rw [List.getD_eq_getElem?_getD, List.getElem?_eq_none (by show 24 ≤ c; omega)] at hx
    cases hx
theorem forms_codes : formsL = codes := rfl
theorem strOf_eq (c d : Nat) : eqV (.str (strOf [c])) (.str (strOf [d])) = decide (c = d) := by
  show decide (strOf [c] = strOf [d]) = decide (c = d)
  apply dec_is
  unfold strOf
  simp
theorem least_in (c : Nat) : inV (.str (strOf [c])) [.str (strOf [100]), .str (strOf [112])] = decide (c = 100 ∨ c = 112) := by
  unfold inV
  rw [List.any_cons, List.any_cons, List.any_nil, strOf_eq, strOf_eq, Bool.or_false]
  by_cases h1 : c = 100
  · simp [h1]
  · by_cases h2 : c = 112
    · simp [h2]
    · have a : ¬ 100 = c := fun z => h1 z.symm
      have b : ¬ 112 = c := fun z => h2 z.symm
      simp [h1, h2, a, b]
section
variable {P : Program} {w : World} {K : PySem.W.Frag} {mg : Str → Option Value} {base : Heap} {A : Adr}
variable {σ : L2.St} {H : Hp} {D : Ends} {tz : TS}
/-! ### is_fit -/
abbrev s_is_fit : Stmt := top 65
theorem sc_is_fit : FnScope ["form", "number"] ["form", "number"] (defScope s_is_fit) := ⟨rfl, rfl, rfl, by decide +kernel, rfl, by decide +kernel, by decide +kernel⟩
def spFit : Sp := fun vs H Q _ => ∃ c n, vs = [.str (strOf [c]), .int ((n : Nat) : Int)] ∧ c ∈ codeL ∧ RetP (fun v _ => v = .bl (fitC c n)) H Q
theorem ok_is_fit (T : Txt K w mg A) (F : FunH K mg "is_fit" s_is_fit ["form", "number"]) : Has P w K mg base 1 "is_fit" spFit := by
  refine F.ok sc_is_fit (fun vs H Q E h => ?_) (fun f cdv Ar outer s H vs Q E hr h => ⟨_, (pss_cons (ps_if (PW.pt (pw_and (pt_cmpR op_in_seq (pv 0) (pe_gref (by rfl) T.g_LEAST_ONE) (by rfl)) (pw_and1 (pt_cmpR op_eq (pv 1) pe_int (nomark _))))) (pss_one (ps_ret pe_bl)) pss_nil)   (pss_one (ps_ret (pe_cmpR op_le (pv 1) (pe_ix ix_kdict (pe_gref (by rfl) T.g_MOST) (pv 0) (fun _ _ => rfl)) (nomark _))))), ?_⟩)
  · obtain ⟨c, n, rfl, _⟩ := h
    rfl
  · obtain ⟨c, n, rfl, hc, k⟩ := h
    refine q_when (b := decide (c = 100 ∨ c = 112) && (n == 0)) (et_and (et_test (ev_is (ev_op (ev_var rfl) ev_c (rv_isT (T.tLe _) rfl rfl)) (congrArg V.bl (least_in c)))) fun _ => et_is (et_test (ev_op (ev_var rfl) ev_c (rv_eq rfl))) (eqb n 0)) (fun hb H1 e1 => ?_) (fun hb H1 e1 => ?_)
    · rw [Bool.and_eq_true, decide_eq_true_eq, beq_iff_eq] at hb
      refine s_ret ev_c fun H2 e2 => k _ _ (e1.trans e2) ?_
      unfold fitC
      rw [if_pos hb]
    · have hb2 : ¬ ((c = 100 ∨ c = 112) ∧ n = 0) := fun q => by
        rw [Bool.and_eq_false_iff] at hb
        rcases hb with hb | hb
        · exact of_decide_eq_false hb q.1
        · rw [q.2] at hb
          cases hb
      refine s_ret (v := .bl (fitC c n)) ?_ fun H2 e2 => k _ _ (e1.trans e2) rfl
      unfold fitC
      rw [if_neg hb2]
      refine ev_is (ev_op (ev_var rfl) (ev_op (z := .int (mostOf c : Int)) ev_c (ev_var rfl) fun H2 e2 Q' q => ⟨A.mo, strOf [c], _, rfl, rfl, T.tMo _ (most_in hc), q H2 (Ex.refl _)⟩) rv_I0) (congrArg V.bl (dec_is (by omega)))
theorem ev_fit {ta tb : TE} {c n : Nat} (ha : Ev ta σ H (.str (strOf [c]))) (hb : Ev tb σ H (.int (n : Int))) (hc : c ∈ codeL) : Ev (tCall spFit [] E0 (tCons ta (tCons tb tNil))) σ H (.bl (fitC c n)) :=
  ev_callV (ea_cons ha (ea_cons hb ea_nil)) fun H1 e1 Q k => ⟨c, n, rfl, hc, k⟩
/-! ### are_names -/
abbrev s_are_names : Stmt := top 66
theorem sc_are_names : FnScope ["names", "name"] ["names"] (defScope s_are_names) := ⟨rfl, rfl, rfl, by decide +kernel, rfl, by decide +kernel, by decide +kernel⟩
theorem str_e : ("e" : Str) = strOf [101] := by decide +kernel
theorem str_t : ("t" : Str) = strOf [116] := by decide +kernel
def spNames (K : PySem.W.Frag) : Sp := fun vs H Q _ => ∃ pm ms, vs = [.ref pm] ∧ SqL K H pm (natI ms) ∧ RetP (fun v _ => v = .bl (namesOk ms)) H Q
theorem ok_are_names (T : Txt K w mg A) (F : FunH K mg "are_names" s_are_names ["names"]) (G_is_fit : Has P w K mg base 1 "is_fit" spFit) : Has P w K mg base 2 "are_names" (spNames K) := by
  refine F.ok sc_are_names (fun vs H Q E h => ?_) (fun f cdv Ar outer s H vs Q E hr h => ⟨_, (pss_one (ps_ret (pe_and (pe_chain op_le op_le pe_int (pe_callB call_len_seq (by rfl) T.n_len PySem.boot_len (pa_cons (pv 0) pa_nil)) (pe_gint (by rfl) T.g_MOST_NAMES)) (pe_one (pe_callB (cr_all rfl) (by rfl) T.n_all (by decide +kernel) (pa_cons (pe_lc (own := [("name", 1)]) (g := (gName 1)) (tt := tYes) (te := (tCall spFit [] E0 (tCons (tC (.str "e")) (tCons (tVar 1) tNil)))) (by rfl) sc_are_names.nd (pi_list (pv 0)) (blkOk_by (own := [("name", 1)]) (N := ["names", "name"]) (sc := defScope s_are_names) (by decide +kernel)) (fun _ _ _ _ _ => by exact (pg_name (i := 1) sc_are_names.nd rfl (by first | exact Or.inl rfl | exact Or.inr rfl))) (fun _ _ _ _ _ => pts_nil) (fun _ _ _ _ _ => by exact (pe_callH G_is_fit (hr.mono (by decide)) (by rfl) (pa_cons pe_str (pa_cons (pv 1) pa_nil))))) pa_nil)))))), ?_⟩)
  · obtain ⟨pm, ms, rfl, _⟩ := h
    rfl
  · obtain ⟨pm, ms, rfl, hm, k⟩ := h
    refine s_ret (v := .bl (namesOk ms)) ?_ fun H2 e2 => k _ _ e2 rfl
    have hlen : ∀ {σ' : L2.St} H', Ex H H' → σ'[0]? = some (some (.ref pm)) → Ev (tCB (rLenS K) (tCons (tVar 0) tNil)) σ' H' (.int (ms.length : Int)) := fun H' e hv => by
      rw [← natI_len2 ms]
      exact ev_len (ev_var hv) (ex_l e hm)
    unfold namesOk
    refine ev_andV (a := decide (1 ≤ ms.length) && decide (ms.length ≤ 6)) (b := ms.all fun n => decide (n ≤ 9)) (ev_is (ev_chain (b1 := decide ((1 : Int) ≤ (ms.length : Int))) (b2 := decide ((ms.length : Int) ≤ 6)) ev_c (hlen H (Ex.refl _) rfl) rv_I0 (fun _ => ev_c) fun _ => rv_I0) ?_) fun hb => ?_
    · have a1 : decide ((1 : Int) ≤ (ms.length : Int)) = decide (1 ≤ ms.length) := dec_is (by omega)
      have a2 : decide ((ms.length : Int) ≤ 6) = decide (ms.length ≤ 6) := dec_is (by omega)
      rw [a1, a2]
    · simp only [Bool.and_eq_true, decide_eq_true_eq] at hb
      have h1 := evp_lcI (K := K) (σ := [some (.ref pm), none]) (H := H) (i := 0) (j := 1) (vs := [1]) (tt := tYes) (te := tCall spFit [] E0 (tCons (tC (.str "e")) (tCons (tVar 1) tNil))) (l := ms) (fun _ => true) (fun n => V.bl (fitC 101 n)) rfl hm (by omega) (fun _ => rfl)
        fun n hn H' e' => ⟨et_yes, fun _ => ev_fit (c := 101) (by rw [← str_e]; exact ev_c) (ev_var rfl) (by decide)⟩
      rw [filter_all, show (ms.map fun n => V.bl (fitC 101 n)) = (ms.map (fitC 101)).map V.bl by rw [List.map_map]; rfl] at h1
      refine ev_is (ev_all h1) ?_
      rw [List.all_map]
      rfl
theorem ev_names {ta : TE} {pm : Addr} {ms : List Nat} (ha : Ev ta σ H (.ref pm)) (hm : SqL K H pm (natI ms)) : Ev (tCall (spNames K) [] E0 (tCons ta tNil)) σ H (.bl (namesOk ms)) :=
  ev_callV (ea_cons ha ea_nil) fun H1 e1 Q k => ⟨pm, ms, rfl, ex_l e1 hm, k⟩
/-! ### answer -/
abbrev s_answer : Stmt := top 67
theorem sc_answer : FnScope ["ledger", "call", "numbers", "names", "deed", "form", "number"] ["ledger", "call", "numbers", "names"] (defScope s_answer) := ⟨rfl, rfl, rfl, by decide +kernel, rfl, by decide +kernel, by decide +kernel⟩
/-- zip of the forms and the numbers, each tried -/
theorem evp_zipFit {tf tn : TE} {cs ns : List Nat} {pn : Addr} {j1 j2 : Nat} {vs : List Nat} (hf : Ev tf σ H (.str (strOf cs))) (hn : Ev tn σ H (.ref pn)) (hs : SqL K H pn (natI ns)) (hl : cs.length = ns.length) (hz : ns.length ≤ 40000) (hc : ∀ c ∈ cs, c ∈ codeL)
    (hw : ∀ x y, wipe (((wipe σ vs).set j1 (some x)).set j2 (some y)) vs = wipe σ vs) (h1 : ∀ x y, (((wipe σ vs).set j1 (some x)).set j2 (some y))[j1]? = some (some x)) (h2 : ∀ x y, (((wipe σ vs).set j1 (some x)).set j2 (some y))[j2]? = some (some y)) :
    EvP (tLc (iZipS K (tCons tf (tCons tn tNil))) (gTup K 2 (gCons (gName j1) (gCons (gName j2) gNil))) tYes (tCall spFit [] E0 (tCons (tVar j1) (tCons (tVar j2) tNil))) vs) σ H (ResL (((cs.zip ns).map fun p => fitC p.1 p.2).map V.bl)) := fun H1 e1 Q k => by
    unfold tLc iZipS
    refine (ea_cons hf (ea_cons hn ea_nil)) H1 e1 _ fun H2 e2 => ⟨strOf cs, pn, natI ns, rfl, ex_l (e1.trans e2) hs, fun Dl hD => ?_⟩
    have hsz : (strOf cs).cps.size = (natI ns).length := by
      rw [natI_len2]
      exact hl
    refine lc_zipS hsz (fun i H' => Ex H2 H' ∧ H' Dl = some (.lst ((((cs.zip ns).take i).map fun p => fitC p.1 p.2).map V.bl))) ⟨Ex.new hD, upd_same⟩ (fun i H' _ q => ex_l ((e1.trans e2).trans q.1) hs) (fun i c y Tp H' hcx hyx hT ⟨q1, q2⟩ => ?_) fun H' ⟨q1, q2⟩ => ?_
    · obtain ⟨n, hn', rfl⟩ := natI_at hyx
      have hc' : cs[i]? = some c := by
        have : (cs.toArray)[i]? = some c := hcx
        simpa using this
      have hz' : (cs.zip ns)[i]? = some (c, n) := by
        rw [List.getElem?_zip_eq_some]
        exact ⟨hc', hn'⟩
      have eT : Ex H' (upd H' Tp (.tup [.str ⟨#[c]⟩, .int (n : Int)])) := Ex.new hT
      refine ⟨Tp, _, rfl, st_of upd_same, rfl, _, _, rfl, _, _, rfl, rfl, hw _ _, ?_⟩
      refine et_yes _ (Ex.refl _) _ fun H3 e3 => ?_
      rw [if_pos rfl]
      refine ev_fit (c := c) (n := n) (ev_var (h1 _ _)) (ev_var (h2 _ _)) (hc c (mem_of_at hc')) H3 (Ex.refl _) _ fun H4 e4 => ?_
      have e34 := (eT.trans e3).trans e4
      refine ⟨_, e34 _ _ q2, ?_, Ex.mut (q1.trans e34) hD, ?_⟩
      · rw [List.length_map, List.length_map, List.length_take]
        exact sz_lt (by
          have := List.length_zip (l₁ := cs) (l₂ := ns)
          omega)
      · rw [upd_same, take_succ hz', List.map_append, List.map_append]
        rfl
    · refine k _ _ (e2.trans q1) ⟨Dl, rfl, ?_⟩
      rw [q2, List.take_of_length_le (by rw [List.length_zip, natI_len2]; omega)]
/-- the table of the deeds -/
structure DeedsAt (P : Program) (w : World) (K : PySem.W.Frag) (mg : Str → Option Value) (base : Heap) (A : Adr) (fs : List Addr) : Prop where
  len : fs.length = 23
  tab : ∀ H, SqT K H A.de (.non :: fs.map V.ref)
  ok : ∀ i f, fs[i]? = some f → Held P w K mg base 10 f (spDeed K A (i + 1))
def spAnswer (K : PySem.W.Frag) (A : Adr) : Sp := fun vs H Q _ => ∃ v c pn pm ns ms, vs = [v, .int ((c : Nat) : Int), .ref pn, .ref pm] ∧ 1 ≤ c ∧ c ≤ 23 ∧ SqL K H pn (natI ns) ∧ SqL K H pm (natI ms) ∧ ns.length = lenOf c ∧ (∀ n ∈ ns, n ≤ 4294967295) ∧
  ((v = .non ∧ RetP (ResL [.int (-11)]) H Q) ∨ ∃ a ae s, v = .ref a ∧ LedAt A H a ae s ∧ Good s ∧ DeedK A a ae (stepN (some s) c ns ms) H Q)
theorem len_le6 {c : Nat} : lenOf c ≤ 6 := by
  by_cases h : c < 24
  · have : ∀ c, c < 24 → lenOf c ≤ 6 := by decide
    exact this c h
  · unfold lenOf
    rw [List.getD_eq_getElem?_getD, List.getElem?_eq_none (by show 24 ≤ c; omega)]
    decide
theorem ev_forms (T : Txt K w mg A) {tb : TE} {c : Nat} (hb : Ev tb σ H (.int (c : Int))) (hc : c ≤ 23) : Ev (tOp (rIxT K) (tC (.ref A.fo)) tb) σ H (.str (strOf (codes.getD c []))) :=
  ev_op ev_c hb (rv_ixT (T.tFo _) (atI_nat (j := c) (by
    rw [forms_codes, List.getElem?_map, List.getD_eq_getElem?_getD, List.getElem?_eq_getElem (show c < codes.length by show c < 24; omega)]
    rfl)))
theorem ok_answer (T : Txt K w mg A) {fs : List Addr} (Dt : DeedsAt P w K mg base A fs) (F : FunH K mg "answer" s_answer ["ledger", "call", "numbers", "names"]) (G_is_fit : Has P w K mg base 1 "is_fit" spFit) (G_are_names : Has P w K mg base 2 "are_names" (spNames K)) :
    Has P w K mg base 11 "answer" (spAnswer K A) := by
  refine F.ok sc_answer (fun vs H Q E h => ?_) (fun f cdv Ar outer s H vs Q E hr h => ?_)
  · obtain ⟨v, c, pn, pm, ns, ms, rfl, _⟩ := h
    rfl
  · obtain ⟨v, c, pn, pm, ns, ms, rfl, c1, c2, hn, hm, hl, hle, h⟩ := h
    obtain ⟨fc, hfc⟩ : ∃ fc, fs[c - 1]? = some fc := ⟨fs[c - 1]'(by rw [Dt.len]; omega), List.getElem?_eq_getElem _⟩
    have HA : ∀ g sp, (fun g => if g = fc then some (spDeed K A c) else none) g = some sp → Held P w K mg base 10 g sp := fun g sp q => by
      dsimp only at q
      split at q
      · rename_i e
        subst e
        cases q
        have := Dt.ok _ _ hfc
        rw [show c - 1 + 1 = c by omega] at this
        exact this
      · cases q
    refine ⟨_, (pss_cons (ps_if (pt_cmpR op_isN (pv 0) pe_non (nomark _)) (pss_one (ps_ret (pe_lst (pa_cons (pe_un un_neg pe_int) pa_nil)))) pss_nil)   (pss_cons (ps_if (pt_not (pt_val (pe_callB (cr_all rfl) (by rfl) T.n_all (by decide +kernel) (pa_cons (pe_lc (own := [("form", 5), ("number", 6)]) (g := (gTup K 2 (gCons (gName 5) (gCons (gName 6) gNil)))) (tt := tYes) (te := (tCall spFit [] E0 (tCons (tVar 5) (tCons (tVar 6) tNil)))) (by rfl) sc_answer.nd (pi_zipS (by rfl) T.n_zip (pa_cons (pe_ix ix_tup (pe_gref (by rfl) T.g_FORMS) (pv 1) (fun _ _ => rfl)) (pa_cons (pv 2) pa_nil))) (blkOk_by (own := [("form", 5), ("number", 6)]) (N := ["ledger", "call", "numbers", "names", "deed", "form", "number"]) (sc := defScope s_answer) (by decide +kernel)) (fun _ _ _ _ _ => by exact (pg_tup (by rfl) (pgs_cons (pg_name (i := 5) sc_answer.nd rfl (by first | exact Or.inl rfl | exact Or.inr rfl)) (pgs_cons (pg_name (i := 6) sc_answer.nd rfl (by first | exact Or.inl rfl | exact Or.inr rfl)) pgs_nil)))) (fun _ _ _ _ _ => pts_nil) (fun _ _ _ _ _ => by exact (pe_callH G_is_fit (hr.mono (by decide)) (by rfl) (pa_cons (pv 5) (pa_cons (pv 6) pa_nil))))) pa_nil)))) (pss_one (ps_ret (pe_lst (pa_cons (pe_un un_neg pe_int) pa_nil)))) pss_nil)   (pss_cons (ps_if (PW.pt (pw_and (pt_cmpR op_eq (pv 1) (pe_gint (by rfl) T.g_FUNNEL) (nomark _)) (pw_and1 (pt_not (pt_val (pe_callH G_are_names (hr.mono (by decide)) (by rfl) (pa_cons (pv 3) pa_nil))))))) (pss_one (ps_ret (pe_lst (pa_cons (pe_un un_neg pe_int) pa_nil)))) pss_nil)   (pss_cons (ps_set (i := 4) sc_answer.nd rfl (by first | exact Or.inl rfl | exact Or.inr rfl) (pe_ix ix_tup (pe_gref (by rfl) T.g_DEEDS) (pv 1) (fun _ _ => rfl)))   (pss_one (ps_ret (pe_callA (i := 4) HA (hr.mono (by decide)) rfl (Or.inl rfl) (pa_cons (pv 0) (pa_cons (pv 2) (pa_cons (pv 3) pa_nil)))))))))), ?_⟩
    rcases h with ⟨rfl, k⟩ | ⟨a, ae, s, rfl, hL, g, k⟩
    · refine q_when (b := true) (et_test (ev_op (ev_var rfl) ev_c fun H1 e1 Q' q => ⟨rfl, q H1 (Ex.refl _)⟩)) (fun hb H1 e1 => ?_) (fun hb H1 e1 => by cases hb)
      exact s_retP (evp_lst1 (ev_un ev_c ru_neg)) fun v H2 e2 r => k v H2 (e1.trans e2) r
    · refine q_when (b := false) (et_test (ev_op (ev_var rfl) ev_c fun H1 e1 Q' q => ⟨rfl, q H1 (Ex.refl _)⟩)) (fun hb => by cases hb) (fun hb H1 e1 => ?_)
      have hcl : (codes.getD c []).length = ns.length := hl.symm
      have h6 : ns.length ≤ 6 := by
        rw [hl]
        exact len_le6
      refine q_when (b := !fitsN c ns) (et_not (et_B (ev_is (ev_all (evp_zipFit (K := K) (ev_forms T (ev_var rfl) c2) (ev_var rfl) (ex_l e1 hn) hcl (by omega) (codes_in c) (fun _ _ => rfl) (fun _ _ => rfl) (fun _ _ => rfl))) (by rw [List.all_map]; rfl)))) (fun hb H2 e2 => ?_) (fun hb H2 e2 => ?_)
      · have hf : fits c ns ms = false := by
          unfold fits
          rw [show fitsN c ns = false by simpa using hb]
          rfl
        rw [step_unfit c1 c2 hl hle hf] at k
        exact s_retP (evp_lst1 (ev_un ev_c ru_neg)) ((k.mono (e1.trans e2)).ro rfl (hL.mono (e1.trans e2)) g)
      · have hb2 : fitsN c ns = true := by simpa using hb
        have e12 := e1.trans e2
        refine q_when (b := (c == 17) && !namesOk ms) (et_and (et_is (et_test (ev_op (ev_var rfl) ev_c (rv_eq rfl))) (eqb c 17)) fun _ => et_not (et_B (ev_names (ev_var rfl) (ex_l e12 hm)))) (fun hc H3 e3 => ?_) (fun hc H3 e3 => ?_)
        · have hf : fits c ns ms = false := by
            rw [Bool.and_eq_true, beq_iff_eq] at hc
            unfold fits
            rw [hb2, hc.1, show namesOk ms = false by simpa using hc.2]
            rfl
          rw [step_unfit c1 c2 hl hle hf] at k
          exact s_retP (evp_lst1 (ev_un ev_c ru_neg)) ((k.mono (e12.trans e3)).ro rfl (hL.mono (e12.trans e3)) g)
        · have hf : fits c ns ms = true := by
            unfold fits
            rw [hb2]
            by_cases q : c = 17
            · rw [q] at hc ⊢
              simpa using hc
            · simp [q]
          have e13 := e12.trans e3
          refine q_asg (v := .ref fc) (ev_op ev_c (ev_var rfl) (rv_ixT (Dt.tab _) (atI_nat (j := c) ?_))) fun H4 e4 => ?_
          · rw [show c = (c - 1) + 1 by omega, List.getElem?_cons_succ, List.getElem?_map, hfc]
            rfl
          · have e14 := e13.trans e4
            refine ⟨fc, spDeed K A c, rfl, if_pos rfl, ?_⟩
            refine ea_cons (ev_var rfl) (ea_cons (ev_var rfl) (ea_cons (ev_var rfl) ea_nil)) H4 (Ex.refl _) _ fun H5 e5 => ?_
            have e15 := e14.trans e5
            exact ⟨a, ae, s, pn, pm, ns, ms, rfl, hL.mono e15, g, ex_l e15 hn, ex_l e15 hm, hf, hl, k.mono e15⟩
end
end Late

/-! D20: answers: what one turn's end does. -/
namespace Late
open PySem PySem.Spec PyProof.Rows L2 Evl
open Kex3 (Record Content Store effectiveAll Metric State)
section
variable {P : Program} {w : World} {K : PySem.W.Frag} {mg : Str → Option Value} {base : Heap} {A : Adr}
variable {σ : L2.St} {H : Hp} {D : Ends} {tz : TS}
theorem LedAt.of_ne {H H' : Hp} {a ae : Addr} {s : Store} (h : LedAt A H a ae s) (e : ∀ b o, H b = some o → (∀ od u, o ≠ .frz od u) → H' b = some o) : LedAt A H' a ae s := by
  obtain ⟨dx, el, h1, h2, h3, h4⟩ := h
  refine ⟨dx, el, e _ _ h1 fun _ _ z => (by cases z), e _ _ h2 fun _ _ z => (by cases z), h3, fun x hx => ?_⟩
  obtain ⟨dy, t, q1, q2⟩ := h4 x hx
  exact ⟨dy, t, e _ _ q1 fun _ _ z => (by cases z), e _ _ q2 fun _ _ z => (by cases z)⟩
/-- making a ledger -/
theorem evp_ledger {ta : TE} {n : Nat} (ha : Ev ta σ H (.int (n : Int))) : EvP (tMake A.cL (spLedger A) [] E0 (tCons ta tNil)) σ H fun v H' => ∃ x ae, v = .ref x ∧ H x = none ∧ H ae = none ∧ LedAt A H' x ae ⟨0, n, none, []⟩ := fun H1 e1 Q k =>
  ea_cons ha ea_nil H1 e1 _ fun H2 e2 x dx nx nd hd => ⟨x, dx, n, rfl, upd_same, fun ae H' b na _ hL => ⟨rfl, k _ _ (e2.trans fun c o h => by
    have h2 : c ≠ x := ne_of_none h nx
    exact b c o h2 (by rw [upd_ne h2, upd_ne (ne_of_none h nd)]; exact h)) ⟨x, ae, rfl, fresh_back (e1.trans e2) nx, fresh_back (e1.trans e2) (by
      have n1 : ae ≠ x := fun z => by
        rw [z, upd_same] at na
        cases na
      rw [upd_ne n1] at na
      have n2 : ae ≠ dx := fun z => by
        rw [z, upd_same] at na
        cases na
      rw [upd_ne n2] at na
      exact na), hL⟩⟩⟩
/-- the ledger that a name holds -/
def Led (A : Adr) (H0 : Hp) (fd : Addr) (v : V) (st : State) (H : Hp) : Prop := (v = .non ∧ st = none) ∨ ∃ a ae s, v = .ref a ∧ st = some s ∧ LedAt A H a ae s ∧ Good s ∧ H0 a = none ∧ H0 ae = none ∧ ae ≠ fd
theorem Led.mono {H0 H H' : Hp} {fd : Addr} {v : V} {st : State} (h : Led A H0 fd v st H) (e : Ex H H') : Led A H0 fd v st H' := by
  rcases h with h | ⟨a, ae, s, h1, h2, h3, h4⟩
  · exact .inl h
  · exact .inr ⟨a, ae, s, h1, h2, h3.mono e, h4⟩
theorem Led.exb {H0 H H' : Hp} {fd : Addr} {v : V} {st : State} {xs : List V} (h : Led A H0 fd v st H) (hf : H fd = some (.lst xs)) (e : ExB fd H H') : Led A H0 fd v st H' := by
  rcases h with h | ⟨a, ae, s, h1, h2, h3, h4, h5, h6, h7⟩
  · exact .inl h
  · exact .inr ⟨a, ae, s, h1, h2, h3.exb (noT_lst hf) e h7, h4, h5, h6, h7⟩
/-- found.append(len(told)); found.extend(told) -/
def tEnd (K : PySem.W.Frag) : TS := tSeq (tDrop (tBM K "list" rAppend (tVar 2) (tCons (tCB (rLenS K) (tCons (tVar 8) tNil)) tNil))) (tDrop (tBM K "list" rExtend (tVar 2) (tCons (tVar 8) tNil)))
theorem end_ok {fd p : Addr} {fl out : List Int} (h2 : σ[2]? = some (some (.ref fd))) (h8 : σ[8]? = some (some (.ref p))) (hf : H fd = some (.lst (fl.map V.int))) (hp : H p = some (.lst (out.map V.int))) (n : p ≠ fd) (hz : fl.length + 1 + out.length ≤ 10000000)
    (k : ∀ H', ExB fd H H' → H' fd = some (.lst ((fl ++ (out.length : Int) :: out).map V.int)) → D.nx σ H') : tEnd K D σ H := by
  have hs : (10000000 : Nat) < sizeLine := by decide
  refine ⟨_, h2, Or.inl ⟨rfl, _, sq_of hf⟩, ?_⟩
  refine ea_cons (ev_len (K := K) (ev_var h8) (sq_of hp)) ea_nil H (Ex.refl _) _ fun H1 e1 => ⟨fd, _, _, rfl, rfl, e1 _ _ hf, by rw [List.length_map]; omega, ?_⟩
  refine ⟨_, h2, Or.inl ⟨rfl, _, sq_of upd_same⟩, ?_⟩
  refine ea_cons (ev_var h8) ea_nil (upd H1 fd _) (Ex.refl _) _ fun H2 e2 => ⟨fd, p, _, out.map V.int, rfl, rfl, e2 _ _ upd_same, e2 _ _ (by rw [upd_ne n]; exact e1 _ _ hp), by rw [List.length_append, List.length_map, List.length_map]; show fl.length + 1 + out.length ≤ sizeLine; omega, ?_⟩
  refine k _ (((ExB.of e1).put.andThen e2).put) ?_
  rw [upd_same, List.length_map, List.map_append, List.map_cons, List.append_assoc]
  rfl
/-- from the moment on where the numbers and names are known -/
def tTail (K : PySem.W.Frag) (A : Adr) (tneg : TE) : TS := tSeq (tAsg (tVar 5) (gName 3)) (tSeq (tIfS (tTest (tOp rNe (tVar 4) (tC (.int 0)))) (tAsg (tLockE (tCall (spAnswer K A) [] E0 (tCons (tVar 1) (tCons (tVar 4) (tCons (tVar 6) (tCons (tVar 7) tNil)))))) (gName 8))
  (tIfS (tB (tCall spFit [] E0 (tCons (tC (.str "t")) (tCons (tOp (rIxL K) (tVar 6) (tC (.int 0))) tNil)))) (tSeq (tAsg (tMake A.cL (spLedger A) [] E0 (tCons (tOp (rIxL K) (tVar 6) (tC (.int 0))) tNil)) (gName 1)) (tAsg (tLst (tCons (tC (.int 0)) tNil)) (gName 8)))
    (tAsg (tLst (tCons tneg tNil)) (gName 8)))) (tEnd K))
theorem tail_ok {H0 : Hp} {pc fd pn pm : Addr} {v : V} {a0 at' c : Nat} {x8 : Option V} {ns ms : List Nat} {st : State} {fl : List Int} {tneg : TE} (hneg : ∀ σ H, Ev tneg σ H (.int (-22))) (e0 : Ex H0 H) (nf : H0 fd = none) (hf : H fd = some (.lst (fl.map V.int))) (hL : Led A H0 fd v st H)
    (hn : SqL K H pn (natI ns)) (hm : SqL K H pm (natI ms)) (n1 : pn ≠ fd) (n2 : pm ≠ fd) (ok : CallOk c ns ms) (hz : fl.length + 1 + (stepN st c ns ms).2.length ≤ 10000000)
    (k : ∀ v' y H', Ex H0 H' → H' fd = some (.lst ((fl ++ ((stepN st c ns ms).2.length : Int) :: (stepN st c ns ms).2).map V.int)) → Led A H0 fd v' (stepN st c ns ms).1 H' →
      D.nx [some (.ref pc), some v', some (.ref fd), some (.int (at' : Int)), some (.int (c : Int)), some (.int (at' : Int)), some (.ref pn), some (.ref pm), some y] H') :
    tTail K A tneg D [some (.ref pc), some v, some (.ref fd), some (.int (a0 : Int)), some (.int (c : Int)), some (.int (at' : Int)), some (.ref pn), some (.ref pm), x8] H := by
  refine q_asg (ev_var rfl) fun H1 e1 => ?_
  have fin : ∀ v' p H2 (st' : State) out, stepN st c ns ms = (st', out) → Ex H0 H2 → H2 fd = some (.lst (fl.map V.int)) → H2 p = some (.lst (out.map V.int)) → p ≠ fd → Led A H0 fd v' st' H2 →
      tEnd K D [some (.ref pc), some v', some (.ref fd), some (.int (at' : Int)), some (.int (c : Int)), some (.int (at' : Int)), some (.ref pn), some (.ref pm), some (.ref p)] H2 := fun v' p H2 st' out r e f1 p1 np hl => by
    rw [r] at hz k
    exact end_ok rfl rfl f1 p1 np hz fun H' b q => k v' _ H' (ExB.base e nf b) q (hl.exb f1 b)
  refine q_if (b := (c != 0)) (et_is (et_test (ev_op (ev_var rfl) ev_c (rv_ne rfl))) (by rw [show (0 : Int) = ((0 : Nat) : Int) from rfl, int_eq]; rfl)) (fun hb H2 e2 => ?_) (fun hb H2 e2 => ?_)
  · have hc : 1 ≤ c := by
      have : c ≠ 0 := by simpa using hb
      omega
    have e12 := e1.trans e2
    have hf2 := e12 _ _ hf
    -- the list found is locked while the call runs
    refine ⟨fd, _, hf2, trivial, fun od => ?_⟩
    have bl : ExB fd H2 (upd H2 fd (.frz od (.lst (fl.map V.int)))) := ExB.put ExB.refl
    refine ea_cons (ev_var rfl) (ea_cons (ev_var rfl) (ea_cons (ev_var rfl) (ea_cons (ev_var rfl) ea_nil))) _ (Ex.refl _) _ fun H3 e3 => ?_
    have b3 : ExB fd H2 H3 := bl.andThen e3
    have f3 : H3 fd = some (.frz od (.lst (fl.map V.int))) := e3 _ _ upd_same
    refine ⟨v, c, pn, pm, ns, ms, rfl, hc, ok.op, exb_la b3 n1 (ex_l e12 hn), exb_la b3 n2 (ex_l e12 hm), ok.len, ok.le, ?_⟩
    have back : ∀ H4, (∀ b o, b ≠ fd → H2 b = some o → H0 b ≠ none → H4 b = some o) → Ex H0 (upd H4 fd (.lst (fl.map V.int))) := fun H4 h b o q => by
      have nb : b ≠ fd := ne_of_none q nf
      rw [upd_ne nb]
      exact h b o nb ((e0.trans e12) _ _ q) (by rw [q]; simp)
    rcases hL with ⟨rfl, rfl⟩ | ⟨a, ae, s, rfl, rfl, hLd, g, na, nae, nfe⟩
    · refine .inl ⟨rfl, fun u H4 e4 ⟨p, eu, hp⟩ => ?_⟩
      subst eu
      have f4 := e4 _ _ f3
      have np : p ≠ fd := fun z => by
        rw [z, f4] at hp
        cases hp
      refine ⟨f4, ?_⟩
      refine fin .non p _ none [-11] (step_none hc ok.op ok.len) (back H4 fun b o nb q _ => e4 _ _ (b3 b o nb q)) upd_same ?_ np (.inl ⟨rfl, rfl⟩)
      rw [upd_ne np]
      exact hp
    · refine .inr ⟨a, ae, s, rfl, ((hLd.mono e12).exb (noT_lst hf2) b3 nfe), g, fun p H4 s' out r x4 hL4 g4 hp => ?_⟩
      have nfa : fd ≠ a := fun z => by
        obtain ⟨dx, q⟩ := hLd.num
        rw [← z, hf] at q
        cases q
      have f4 := x4 _ _ nfa nfe.symm f3
      have np : p ≠ fd := fun z => by
        rw [z, f4] at hp
        cases hp
      refine ⟨f4, ?_⟩
      refine fin (.ref a) p _ (some s') out r (back H4 fun b o nb q n0 => x4 _ _ (fun z => n0 (by rw [z]; exact na)) (fun z => n0 (by rw [z]; exact nae)) (b3 b o nb q)) upd_same ?_ np (.inr ⟨a, ae, s', rfl, rfl, hL4.of_ne fun b o q no => ?_, g4, na, nae, nfe⟩)
      · rw [upd_ne np]
        exact hp
      · rw [upd_ne fun z => ?_]
        · exact q
        · rw [z, f4] at q
          exact no _ _ (Option.some.inj q).symm
  · have hc : c = 0 := by simpa using hb
    subst hc
    obtain ⟨n, rfl⟩ := len1 ok.len
    have e12 := e1.trans e2
    have hnum : ∀ {σ' : L2.St} H3, Ex H2 H3 → σ'[6]? = some (some (.ref pn)) → Ev (tOp (rIxL K) (tVar 6) (tC (.int 0))) σ' H3 (.int (n : Int)) := fun H3 e hv => ev_num (j := 0) (ev_var hv) (ex_l (e12.trans e) hn) rfl
    refine s_if (et_B (ev_fit (c := 116) (by rw [← str_t]; exact ev_c) (hnum H2 (Ex.refl _) rfl) (by decide))) (fun hb H3 e3 => ?_) (fun hb H3 e3 => ?_)
    · have hn2 : ¬ 100000 < n := by
        have : fitC 116 n = true := hb
        simp [fitC, mostOf] at this
        omega
      have e13 := e12.trans e3
      refine q_asgP (evp_ledger (hnum H3 e3 rfl)) fun u H4 e4 ⟨x, ae, eu, nx, nae, hL4⟩ => ?_
      subst eu
      refine s_asgL (el_lst (ea_cons ev_c ea_nil) (by show 1 ≤ 100000; decide)) fun p H5 np e5 hp => ?_
      have e14 := e13.trans e4
      refine fin (.ref x) p H5 (some ⟨0, n, none, []⟩) [0] ?_ (e0.trans (e14.trans e5)) ((e14.trans e5) _ _ hf) hp (fun z => ?_) (.inr ⟨x, ae, _, rfl, rfl, hL4.mono e5, good_new (by omega), fresh_back (e0.trans e13) nx, fresh_back (e0.trans e13) nae, fun z => ?_⟩)
      · rw [st0, if_neg hn2]
      · rw [z, e14 _ _ hf] at np
        cases np
      · rw [z, e13 _ _ hf] at nae
        cases nae
    · have hn2 : 100000 < n := by
        have : fitC 116 n = false := hb
        simp [fitC, mostOf] at this
        omega
      have e13 := e12.trans e3
      refine s_asgL (el_lst (ea_cons (hneg _ _) ea_nil) (by show 1 ≤ 100000; decide)) fun p H5 np e5 hp => ?_
      refine fin v p H5 st [-22] ?_ (e0.trans (e13.trans e5)) ((e13.trans e5) _ _ hf) hp (fun z => ?_) (hL.mono (e13.trans e5))
      · rw [st0, if_pos hn2]
      · rw [z, e13 _ _ hf] at np
        cases np
end
end Late

/-! D21: answers. -/
namespace Late
open PySem PySem.Spec PyProof.Rows L2 Evl
open Kex3 (Record Content Store effectiveAll Metric State)
theorem drop_add {α : Type} {l xs r : List α} {i : Nat} (h : l.drop i = xs ++ r) : l.drop (i + xs.length) = r := by
  rw [← List.drop_drop, h, List.drop_left]
theorem drop_get {α : Type} {l r : List α} {i : Nat} {x : α} (h : l.drop i = x :: r) : l[i]? = some x := by
  have := congrArg (fun m => m[0]?) h
  rw [List.getElem?_drop] at this
  simpa using this
theorem drop_len {α : Type} {l r : List α} {i : Nat} (h : l.drop i = r) (hi : i ≤ l.length) : i + r.length = l.length := by
  have := congrArg List.length h
  rw [List.length_drop] at this
  omega
theorem cut_nat {l : List Int} {i j : Nat} (h1 : i ≤ j) (h2 : j ≤ l.length) : cutV (l.map V.int) (some (i : Int)) (some (j : Int)) = ((l.drop i).take (j - i)).map V.int := by
  unfold cutV
  rw [HT.sIx_nat, HT.sIx_nat, List.length_map, Nat.min_eq_left (show i ≤ l.length by omega), Nat.min_eq_left h2, ← List.map_drop, ← List.map_take]
theorem nI_len (l : List Nat) : (nI l).length = l.length := by
  unfold nI
  rw [List.length_map]
theorem encs_nil {ys : List Call} (h : encs ys = []) : ys = [] := by
  cases ys with
  | nil => rfl
  | cons x ys =>
    unfold encs at h
    rw [List.flatMap_cons] at h
    unfold enc at h
    cases h
section
variable {P : Program} {w : World} {K : PySem.W.Frag} {mg : Str → Option Value} {base : Heap} {A : Adr}
variable {σ : L2.St} {H : Hp} {D : Ends} {tz : TS}
theorem ev_lenZ {te : TE} {l : List Nat} (h : Ev te σ H (.str (strOf l))) (hz : l.length ≤ 100000) : Ev (tCB (fun xs H Q => ∃ z : Str, xs = [V.str z] ∧ z.length ≤ sizeLine ∧ Q (.int z.length) H) (tCons te tNil)) σ H (.int (l.length : Int)) := fun H1 e Q q =>
  h H1 e _ fun H2 e2 => ⟨strOf l, rfl, sz_of hz, q H2 e2⟩
theorem el_cut {ta : TE} {to tu : TE} {p : Addr} {l m : List Int} {i j : Nat} (ha : Ev ta σ H (.ref p)) (hs : SqL K H p (l.map V.int)) (hi : Ev to σ H (.int (i : Int))) (hj : Ev tu σ H (.int (j : Int))) (h1 : i ≤ j) (h2 : j ≤ l.length) (e : (l.drop i).take (j - i) = m) :
    EvL (tSl (rSlL K) ta (tPart to) (tPart tu)) σ H (m.map V.int) := by
  have := el_sl (K := K) ha (eo_some hi) (eo_some hj) hs
  rw [cut_nat h1 h2, e] at this
  exact this
theorem ev_at {ta tb : TE} {p : Addr} {l : List Int} {i : Nat} {z : Int} (ha : Ev ta σ H (.ref p)) (hb : Ev tb σ H (.int (i : Int))) (hs : SqL K H p (l.map V.int)) (h : l[i]? = some z) : Ev (tOp (rIxL K) ta tb) σ H (.int z) :=
  ev_op ha hb (rv_ixL hs (atI_nat (by rw [List.getElem?_map, h]; rfl)))
/-- what stands at the head of each turn, m calls still to come -/
def AtTurn (A : Adr) (pc fd : Addr) (l : List Int) (xs : List Call) (H : Hp) (m : Nat) (σ' : L2.St) (H' : Hp) : Prop := ∃ v at' ys st fl x4 x5 x6 x7 x8, σ' = [some (.ref pc), some v, some (.ref fd), some (.int ((at' : Nat) : Int)), x4, x5, x6, x7, x8] ∧ m = ys.length ∧ l.drop at' = encs ys ∧ at' ≤ l.length ∧ (∀ x ∈ ys, CallOk x.1 x.2.1 x.2.2) ∧ Ex H H' ∧
  H' fd = some (.lst ((fl : List Int).map V.int)) ∧ fl ++ outs st ys = outs none xs ∧ Led A H fd v st H'
abbrev s_answers : Stmt := top 68
theorem sc_answers : FnScope ["calls", "ledger", "found", "at", "call", "end", "numbers", "names", "told"] ["calls"] (defScope s_answers) := ⟨rfl, rfl, rfl, by decide +kernel, rfl, by decide +kernel, by decide +kernel⟩
def spAnswers (K : PySem.W.Frag) : Sp := fun vs H Q _ => ∃ pc l, vs = [.ref pc] ∧ SqL K H pc (l.map V.int) ∧ PyKex3.answers_asked l = true ∧ ∀ (H' : Hp) (p : Addr), H' p = some (.lst ((PyKex3.answers l).map V.int)) → Q (.ref p) H'
theorem ok_answers (T : Txt K w mg A) {f : Addr} {fd0 : FuncData} (F : Fun K "answers" "answers" s_answers f fd0) (G_is_fit : Has P w K mg base 1 "is_fit" spFit) (G_answer : Has P w K mg base 11 "answer" (spAnswer K A)) (G_Ledger : HasC P w K mg base 1 "Ledger" A.cL (spLedger A)) : FnOk P w K mg base CX0 12 f fd0 ["calls"] (spAnswers K) := by
  refine F.ok sc_answers (fun vs H Q E h => ?_) (fun cdv Ar outer s H vs Q E hr h => ⟨_, (pss_cons (ps_set (i := 1) sc_answers.nd rfl (by first | exact Or.inl rfl | exact Or.inr rfl) pe_non)   (pss_cons (ps_set (i := 2) sc_answers.nd rfl (by first | exact Or.inl rfl | exact Or.inr rfl) (pe_lst pa_nil))   (pss_cons (ps_set (i := 3) sc_answers.nd rfl (by first | exact Or.inl rfl | exact Or.inr rfl) pe_int)   (pss_cons (ps_while PassesOwn.never (pt_cmpR op_lt (pv 3) (pe_callB call_len_seq (by rfl) T.n_len PySem.boot_len (pa_cons (pv 0) pa_nil)) (nomark _)) (pss_cons (ps_set (i := 4) sc_answers.nd rfl (by first | exact Or.inl rfl | exact Or.inr rfl) (pe_ix ix_list (pv 0) (pv 3) (fun _ _ => rfl)))   (pss_cons (ps_set (i := 5) sc_answers.nd rfl (by first | exact Or.inl rfl | exact Or.inr rfl) (pe_op op_add (pe_op op_add (pv 3) pe_int) (pe_callB call_len_str (by rfl) T.n_len PySem.boot_len (pa_cons (pe_ix ix_tup (pe_gref (by rfl) T.g_FORMS) (pv 4) (fun _ _ => rfl)) pa_nil))))   (pss_cons (ps_set (i := 6) sc_answers.nd rfl (by first | exact Or.inl rfl | exact Or.inr rfl) (pe_slice sl_list (pv 0) (po_some (pe_op op_add (pv 3) pe_int)) (po_some (pv 5))))   (pss_cons (ps_set (i := 7) sc_answers.nd rfl (by first | exact Or.inl rfl | exact Or.inr rfl) (pe_lst pa_nil))   (pss_cons (ps_if (pt_cmpR op_eq (pv 4) (pe_gint (by rfl) T.g_FUNNEL) (nomark _)) (pss_cons (ps_set (i := 7) sc_answers.nd rfl (by first | exact Or.inl rfl | exact Or.inr rfl) (pe_slice sl_list (pv 0) (po_some (pe_op op_add (pv 5) pe_int)) (po_some (pe_op op_add (pe_op op_add (pv 5) pe_int) (pe_ix ix_list (pv 0) (pv 5) (fun _ _ => rfl))))))   (pss_one (ps_set (i := 5) sc_answers.nd rfl (by first | exact Or.inl rfl | exact Or.inr rfl) (pe_op op_add (pe_op op_add (pv 5) pe_int) (pe_ix ix_list (pv 0) (pv 5) (fun _ _ => rfl)))))) pss_nil)   (pss_cons (ps_set (i := 3) sc_answers.nd rfl (by first | exact Or.inl rfl | exact Or.inr rfl) (pv 5))   (pss_cons (ps_if (pt_cmpR op_ne (pv 4) (pe_gint (by rfl) T.g_CREATE) (nomark _)) (pss_one (ps_set (i := 8) sc_answers.nd rfl (by first | exact Or.inl rfl | exact Or.inr rfl) (pe_lock (pe_callH G_answer (hr.mono (by decide)) (by rfl) (pa_cons (pv 1) (pa_cons (pv 4) (pa_cons (pv 6) (pa_cons (pv 7) pa_nil)))))))) (pss_one (ps_if (pt_val (pe_callH G_is_fit (hr.mono (by decide)) (by rfl) (pa_cons pe_str (pa_cons (pe_ix ix_list (pv 6) pe_int (fun _ _ => rfl)) pa_nil)))) (pss_cons (ps_set (i := 1) sc_answers.nd rfl (by first | exact Or.inl rfl | exact Or.inr rfl) (pe_makeH G_Ledger (hr.mono (by decide)) (by rfl) (pa_cons (pe_ix ix_list (pv 6) pe_int (fun _ _ => rfl)) pa_nil)))   (pss_one (ps_set (i := 8) sc_answers.nd rfl (by first | exact Or.inl rfl | exact Or.inr rfl) (pe_lst (pa_cons pe_int pa_nil))))) (pss_one (ps_set (i := 8) sc_answers.nd rfl (by first | exact Or.inl rfl | exact Or.inr rfl) (pe_lst (pa_cons (pe_un un_neg pe_int) pa_nil)))))))   (pss_cons (ps_expr (pe_bm PySem.F.plainAttrs_list PySem.F.slot_list_append PySem.F.type_list_append mt_append (pv 2) (pa_cons (pe_callB call_len_seq (by rfl) T.n_len PySem.boot_len (pa_cons (pv 8) pa_nil)) pa_nil)))   (pss_one (ps_expr (pe_bm PySem.F.plainAttrs_list PySem.F.slot_list_extend PySem.F.type_list_extend mt_extend (pv 2) (pa_cons (pv 8) pa_nil)))))))))))))   (pss_one (ps_ret (pv 2))))))), ?_⟩)
  · obtain ⟨pc, l, rfl, _⟩ := h
    rfl
  · obtain ⟨pc, l, rfl, hs, hask, k⟩ := h
    obtain ⟨xs, el, hok, hans, hbig⟩ := asked_is hask
    rw [hans] at k
    refine q_asg ev_c fun Ha ea => ?_
    refine q_asgL (el_lst ea_nil (by decide)) fun fd Hb nf eb hfd => ?_
    refine q_asg ev_c fun Hc ec => ?_
    have nf0 : H fd = none := fresh_back ea nf
    have e0 := (ea.trans eb).trans ec
    refine s_while (AtTurn A pc fd l xs H) xs.length ⟨.non, 0, xs, none, [], none, none, none, none, none, rfl, rfl, el, Nat.zero_le _, hok, e0, ec _ _ hfd, rfl, .inl ⟨rfl, rfl⟩⟩ ?_
    rintro m σ' H' ⟨v, at', ys, st, fl, x4, x5, x6, x7, x8, rfl, rfl, hd, hat, hoks, e, hf, htot, hL⟩
    have hs' := ex_l e hs
    refine ⟨decide (at' < l.length), et_is (et_test (ev_op (ev_var rfl) (ev_len (ev_var rfl) hs') rv_I0)) (by rw [List.length_map]; exact dec_is (by omega)), fun hb H1 e1 => ?_, fun hb H1 e1 => ?_⟩
    · have hlt : at' < l.length := of_decide_eq_true hb
      match ys, hd, hoks, htot with
      | [], hd, _, _ =>
        have := drop_len hd hat
        simp [encs] at this
        omega
      | (c, ns, ms) :: ys', hd, hoks, htot =>
        have ok : CallOk c ns ms := hoks _ List.mem_cons_self
        refine ⟨AtTurn A pc fd l xs H ys'.length, fun σ2 H2 w => ⟨ys'.length, by simp, w⟩, ?_⟩
        have hd0 : l.drop at' = (c : Int) :: (nI ns ++ ((if c = 17 then (ms.length : Int) :: nI ms else []) ++ encs ys')) := by
          rw [hd]
          show enc c ns ms ++ encs ys' = _
          unfold enc
          rw [List.cons_append, List.append_assoc]
        have hd1 : l.drop (at' + 1) = nI ns ++ ((if c = 17 then (ms.length : Int) :: nI ms else []) ++ encs ys') := drop_add (xs := [(c : Int)]) hd0
        have hd2 : l.drop (at' + 1 + ns.length) = (if c = 17 then (ms.length : Int) :: nI ms else []) ++ encs ys' := by
          rw [← nI_len ns]
          exact drop_add hd1
        have hln := drop_len hd1 (by omega)
        rw [List.length_append, nI_len] at hln
        have he : at' + 1 + ns.length ≤ l.length := by omega
        have e01 := e.trans e1
        have hs1 := ex_l e1 hs'
        -- call, end, numbers, names
        refine q_asg (v := .int (c : Int)) (ev_at (K := K) (ev_var rfl) (ev_var rfl) hs1 (drop_get hd0)) fun H2 e2 => ?_
        refine q_asg (v := .int ((at' + 1 + ns.length : Nat) : Int)) (ev_is (ev_op (ev_op (ev_var rfl) ev_c rv_I0) (ev_lenZ (ev_forms T (ev_var rfl) ok.op) (Nat.le_trans (show lenOf c ≤ 6 from len_le6) (by decide))) rv_I0) (congrArg V.int (by
          have : (codes.getD c []).length = ns.length := ok.len.symm
          rw [this]
          omega))) fun H3 e3 => ?_
        refine q_asgL (el_cut (K := K) (i := at' + 1) (j := at' + 1 + ns.length) (m := nI ns) (ev_var rfl) (ex_l (e2.trans e3) hs1) (ev_is (ev_op (ev_var rfl) ev_c rv_I0) (congrArg V.int (by omega))) (ev_var rfl) (by omega) he (by
          rw [hd1, show at' + 1 + ns.length - (at' + 1) = (nI ns).length by rw [nI_len]; omega, List.take_left])) fun pn H4 np4 e4 hpn => ?_
        refine q_asgL (el_lst ea_nil (by decide)) fun p0 H5 np5 e5 hp0 => ?_
        rw [nI_V] at hpn
        have e13 := e2.trans e3
        have e14 := e13.trans e4
        have e15 := e14.trans e5
        have hf1 := e1 _ _ hf
        have npn : pn ≠ fd := fun z => by
          rw [z, e13 _ _ hf1] at np4
          cases np4
        have np0 : p0 ≠ fd := fun z => by
          rw [z, e14 _ _ hf1] at np5
          cases np5
        have htot2 : fl ++ ((stepN st c ns ms).2.length : Int) :: ((stepN st c ns ms).2 ++ outs (stepN st c ns ms).1 ys') = outs none xs := htot
        have hz : fl.length + 1 + (stepN st c ns ms).2.length ≤ 10000000 := by
          have := congrArg List.length htot2
          rw [List.length_append, List.length_cons, List.length_append] at this
          omega
        have fin : ∀ (at2 pm : Nat) H6 a0, Ex H5 H6 → l.drop at2 = encs ys' → at2 ≤ l.length → SqL K H6 pm (natI ms) → pm ≠ fd →
            tTail K A (tUn (rU fun i => .int (-i)) (tC (.int 22))) { nx := AtTurn A pc fd l xs H ys'.length, rt := Q, ct := AtTurn A pc fd l xs H ys'.length, bk := tRet (tVar 2) { nx := fun _ H' => Q .non H', rt := Q } } [some (.ref pc), some v, some (.ref fd), some (.int ((a0 : Nat) : Int)), some (.int (c : Int)), some (.int (at2 : Int)), some (.ref pn), some (.ref pm), x8] H6 := fun at2 pm H6 a0 e6 r1 r2 r3 r4 => by
          refine tail_ok (fun σ H => ev_un ev_c ru_neg) ((e01.trans e15).trans e6) nf0 ((e15.trans e6) _ _ hf1) (hL.mono ((e1.trans e15).trans e6)) (sq_of ((e5.trans e6) _ _ hpn)) r3 npn r4 ok hz fun v' y H7 e7 f7 l7 => ?_
          exact ⟨v', at2, ys', _, _, _, _, _, _, _, rfl, rfl, r1, r2, fun x hx => hoks x (List.mem_cons_of_mem _ hx), e7, f7, by rw [List.append_assoc]; exact htot2, l7⟩
        refine q_when (b := (c == 17)) (et_is (et_test (ev_op (ev_var rfl) ev_c (rv_eq rfl))) (eqb c 17)) (fun hb H6 e6 => ?_) (fun hb H6 e6 => ?_)
        · have hc : c = 17 := by simpa using hb
          rw [if_pos hc] at hd2
          have hd3 : l.drop (at' + 1 + ns.length + 1) = nI ms ++ encs ys' := drop_add (xs := [(ms.length : Int)]) hd2
          have hd4 : l.drop (at' + 1 + ns.length + 1 + ms.length) = encs ys' := by
            rw [← nI_len ms]
            exact drop_add hd3
          have hlt2 : at' + 1 + ns.length < l.length := by
            have := drop_len hd2 he
            rw [List.length_append, List.length_cons] at this
            omega
          have hln3 := drop_len hd3 (by omega)
          rw [List.length_append, nI_len] at hln3
          have hs6 := ex_l (e15.trans e6) hs1
          have hat2 : ∀ {σ' : L2.St} H7, Ex H6 H7 → σ'[0]? = some (some (.ref pc)) → σ'[5]? = some (some (.int ((at' + 1 + ns.length : Nat) : Int))) → Ev (tOp (rIxL K) (tVar 0) (tVar 5)) σ' H7 (.int (ms.length : Int)) := fun H7 e7 h0 h5 => ev_at (ev_var h0) (ev_var h5) (ex_l e7 hs6) (drop_get hd2)
          refine q_asgL (el_cut (K := K) (i := at' + 1 + ns.length + 1) (j := at' + 1 + ns.length + 1 + ms.length) (m := nI ms) (ev_var rfl) hs6 (ev_is (ev_op (ev_var rfl) ev_c rv_I0) (congrArg V.int (by omega))) (ev_is (ev_op (ev_op (ev_var rfl) ev_c rv_I0) (hat2 H6 (Ex.refl _) rfl rfl) rv_I0) (congrArg V.int (by omega))) (by omega) (by omega) (by
            rw [hd3, show at' + 1 + ns.length + 1 + ms.length - (at' + 1 + ns.length + 1) = (nI ms).length by rw [nI_len]; omega, List.take_left])) fun pm H7 np7 e7 hpm => ?_
          rw [nI_V] at hpm
          refine s_asg (v := .int ((at' + 1 + ns.length + 1 + ms.length : Nat) : Int)) (ev_is (ev_op (ev_op (ev_var rfl) ev_c rv_I0) (hat2 H7 e7 rfl rfl) rv_I0) (congrArg V.int (by omega))) fun H8 e8 => ?_
          refine fin (at' + 1 + ns.length + 1 + ms.length) pm H8 at' ((e6.trans e7).trans e8) hd4 (by omega) (sq_of (e8 _ _ hpm)) fun z => ?_
          rw [z, (e15.trans e6) _ _ hf1] at np7
          cases np7
        · have hc : c ≠ 17 := by simpa using hb
          rw [if_neg hc, List.nil_append] at hd2
          have hms := ok.no hc
          exact fin (at' + 1 + ns.length) p0 H6 at' e6 hd2 he (by rw [hms]; exact sq_of (e6 _ _ hp0)) np0
    · have hge : ¬ at' < l.length := of_decide_eq_false hb
      have hy : ys = [] := encs_nil (by rw [← hd]; exact List.drop_of_length_le (by omega))
      subst hy
      have hfl : fl = outs none xs := by
        rw [← htot]
        exact (List.append_nil _).symm
      refine s_ret (σ := [some (.ref pc), some v, some (.ref fd), some (.int ((at' : Nat) : Int)), x4, x5, x6, x7, x8]) (ev_var rfl) fun H2 e2 => k _ _ ?_
      rw [← hfl]
      exact (e1.trans e2) _ _ hf
end
end Late

/-! The end: what the top has written, and the row. -/

namespace Late
open PySem PySem.Spec PyProof.Rows L2 Evl
open Kex3 (Record Content Store effectiveAll Metric State)
/-- the name x holds the def of the statement st, at f -/
def FunA (K : PySem.W.Frag) (mg : Str → Option Value) (x : Str) (st : Stmt) (ps : List Str) (f : Addr) : Prop := ∃ fd, mg x = some (.ref f) ∧ Fun K x x st f fd ∧ Binds K fd ps []
/-- the name x holds the class C, whose __init__ is the def of the statement st -/
def InitA (K : PySem.W.Frag) (mg : Str → Option Value) (x qual : Str) (st : Stmt) (ps : List Str) (C : Addr) : Prop := ∃ f fd, mg x = some (.ref C) ∧ Mk K C f ∧ Fun K "__init__" qual st f fd ∧ Binds K fd ps []
section
variable {P : Program} {w : World} {K : PySem.W.Frag} {mg : Str → Option Value} {base h : Heap} {A : Adr}
theorem fun_of {x : Str} {st : Stmt} {ps : List Str} {f : Addr} (F : FunA K mg x st ps f) : FunH K mg x st ps := by
  obtain ⟨fd, a, b, c⟩ := F
  exact ⟨f, fd, a, b, c⟩
theorem held_of {x : Str} {st : Stmt} {ps : List Str} {f : Addr} {sp : Sp} (F : FunA K mg x st ps f) (G : Has P w K mg base 10 x sp) : Held P w K mg base 10 f sp := by
  obtain ⟨fd, a, b, c⟩ := F
  obtain ⟨f', fd', ps', a', k, b', ok⟩ := G
  rw [a] at a'
  cases a'
  exact ⟨fd', ps', ok, k, b'⟩
theorem fa_kind_of (X : K.In h) (G : h.Ns mainGlobals mg) {f : Addr} {od an : Option Addr} {sl : Array (Option Value)} {oc kV dc pm cd ct : Value} (a : PySem.W.nsIn K mainGlobals "kind_of" = some (some (.ref f))) (l : K.lookup f = some ⟨oc, od, .func (PySem.W.fnOf "kind_of" "kind_of" (defArgs s_kind_of) (defBody s_kind_of) (defScope s_kind_of) .none kV dc pm an cd ct), sl⟩) (c : PySem.W.codeIn K cd "kind_of" = true) (k : PySem.W.keepIn K (.ref f) = true) : FunA K mg "kind_of" s_kind_of ["entry"] f :=
  ⟨_, PySem.W.mg_of X G a, fun_mk l c k, (fun_mk (st := s_kind_of) l c k).binds (ps := ["entry"]) fun _ _ _ _ _ _ us hl => match us, hl with | [_], _ => rfl⟩
theorem fa_counting (X : K.In h) (G : h.Ns mainGlobals mg) {f : Addr} {od an : Option Addr} {sl : Array (Option Value)} {oc kV dc pm cd ct : Value} (a : PySem.W.nsIn K mainGlobals "counting" = some (some (.ref f))) (l : K.lookup f = some ⟨oc, od, .func (PySem.W.fnOf "counting" "counting" (defArgs s_counting) (defBody s_counting) (defScope s_counting) .none kV dc pm an cd ct), sl⟩) (c : PySem.W.codeIn K cd "counting" = true) (k : PySem.W.keepIn K (.ref f) = true) : FunA K mg "counting" s_counting ["ledger"] f :=
  ⟨_, PySem.W.mg_of X G a, fun_mk l c k, (fun_mk (st := s_counting) l c k).binds (ps := ["ledger"]) fun _ _ _ _ _ _ us hl => match us, hl with | [_], _ => rfl⟩
theorem fa_is_late (X : K.In h) (G : h.Ns mainGlobals mg) {f : Addr} {od an : Option Addr} {sl : Array (Option Value)} {oc kV dc pm cd ct : Value} (a : PySem.W.nsIn K mainGlobals "is_late" = some (some (.ref f))) (l : K.lookup f = some ⟨oc, od, .func (PySem.W.fnOf "is_late" "is_late" (defArgs s_is_late) (defBody s_is_late) (defScope s_is_late) .none kV dc pm an cd ct), sl⟩) (c : PySem.W.codeIn K cd "is_late" = true) (k : PySem.W.keepIn K (.ref f) = true) : FunA K mg "is_late" s_is_late ["ledger", "entry"] f :=
  ⟨_, PySem.W.mg_of X G a, fun_mk l c k, (fun_mk (st := s_is_late) l c k).binds (ps := ["ledger", "entry"]) fun _ _ _ _ _ _ us hl => match us, hl with | [_, _], _ => rfl⟩
theorem fa_retracted_numbers (X : K.In h) (G : h.Ns mainGlobals mg) {f : Addr} {od an : Option Addr} {sl : Array (Option Value)} {oc kV dc pm cd ct : Value} (a : PySem.W.nsIn K mainGlobals "retracted_numbers" = some (some (.ref f))) (l : K.lookup f = some ⟨oc, od, .func (PySem.W.fnOf "retracted_numbers" "retracted_numbers" (defArgs s_retracted_numbers) (defBody s_retracted_numbers) (defScope s_retracted_numbers) .none kV dc pm an cd ct), sl⟩) (c : PySem.W.codeIn K cd "retracted_numbers" = true) (k : PySem.W.keepIn K (.ref f) = true) : FunA K mg "retracted_numbers" s_retracted_numbers ["ledger"] f :=
  ⟨_, PySem.W.mg_of X G a, fun_mk l c k, (fun_mk (st := s_retracted_numbers) l c k).binds (ps := ["ledger"]) fun _ _ _ _ _ _ us hl => match us, hl with | [_], _ => rfl⟩
theorem fa_effective_of (X : K.In h) (G : h.Ns mainGlobals mg) {f : Addr} {od an : Option Addr} {sl : Array (Option Value)} {oc kV dc pm cd ct : Value} (a : PySem.W.nsIn K mainGlobals "effective_of" = some (some (.ref f))) (l : K.lookup f = some ⟨oc, od, .func (PySem.W.fnOf "effective_of" "effective_of" (defArgs s_effective_of) (defBody s_effective_of) (defScope s_effective_of) .none kV dc pm an cd ct), sl⟩) (c : PySem.W.codeIn K cd "effective_of" = true) (k : PySem.W.keepIn K (.ref f) = true) : FunA K mg "effective_of" s_effective_of ["ledger"] f :=
  ⟨_, PySem.W.mg_of X G a, fun_mk l c k, (fun_mk (st := s_effective_of) l c k).binds (ps := ["ledger"]) fun _ _ _ _ _ _ us hl => match us, hl with | [_], _ => rfl⟩
theorem fa_effective_rows (X : K.In h) (G : h.Ns mainGlobals mg) {f : Addr} {od an : Option Addr} {sl : Array (Option Value)} {oc kV dc pm cd ct : Value} (a : PySem.W.nsIn K mainGlobals "effective_rows" = some (some (.ref f))) (l : K.lookup f = some ⟨oc, od, .func (PySem.W.fnOf "effective_rows" "effective_rows" (defArgs s_effective_rows) (defBody s_effective_rows) (defScope s_effective_rows) .none kV dc pm an cd ct), sl⟩) (c : PySem.W.codeIn K cd "effective_rows" = true) (k : PySem.W.keepIn K (.ref f) = true) : FunA K mg "effective_rows" s_effective_rows ["ledger"] f :=
  ⟨_, PySem.W.mg_of X G a, fun_mk l c k, (fun_mk (st := s_effective_rows) l c k).binds (ps := ["ledger"]) fun _ _ _ _ _ _ us hl => match us, hl with | [_], _ => rfl⟩
theorem fa_unit_rows (X : K.In h) (G : h.Ns mainGlobals mg) {f : Addr} {od an : Option Addr} {sl : Array (Option Value)} {oc kV dc pm cd ct : Value} (a : PySem.W.nsIn K mainGlobals "unit_rows" = some (some (.ref f))) (l : K.lookup f = some ⟨oc, od, .func (PySem.W.fnOf "unit_rows" "unit_rows" (defArgs s_unit_rows) (defBody s_unit_rows) (defScope s_unit_rows) .none kV dc pm an cd ct), sl⟩) (c : PySem.W.codeIn K cd "unit_rows" = true) (k : PySem.W.keepIn K (.ref f) = true) : FunA K mg "unit_rows" s_unit_rows ["ledger", "unit"] f :=
  ⟨_, PySem.W.mg_of X G a, fun_mk l c k, (fun_mk (st := s_unit_rows) l c k).binds (ps := ["ledger", "unit"]) fun _ _ _ _ _ _ us hl => match us, hl with | [_, _], _ => rfl⟩
theorem fa_event_rows (X : K.In h) (G : h.Ns mainGlobals mg) {f : Addr} {od an : Option Addr} {sl : Array (Option Value)} {oc kV dc pm cd ct : Value} (a : PySem.W.nsIn K mainGlobals "event_rows" = some (some (.ref f))) (l : K.lookup f = some ⟨oc, od, .func (PySem.W.fnOf "event_rows" "event_rows" (defArgs s_event_rows) (defBody s_event_rows) (defScope s_event_rows) .none kV dc pm an cd ct), sl⟩) (c : PySem.W.codeIn K cd "event_rows" = true) (k : PySem.W.keepIn K (.ref f) = true) : FunA K mg "event_rows" s_event_rows ["rows"] f :=
  ⟨_, PySem.W.mg_of X G a, fun_mk l c k, (fun_mk (st := s_event_rows) l c k).binds (ps := ["rows"]) fun _ _ _ _ _ _ us hl => match us, hl with | [_], _ => rfl⟩
theorem fa_exposure_rows (X : K.In h) (G : h.Ns mainGlobals mg) {f : Addr} {od an : Option Addr} {sl : Array (Option Value)} {oc kV dc pm cd ct : Value} (a : PySem.W.nsIn K mainGlobals "exposure_rows" = some (some (.ref f))) (l : K.lookup f = some ⟨oc, od, .func (PySem.W.fnOf "exposure_rows" "exposure_rows" (defArgs s_exposure_rows) (defBody s_exposure_rows) (defScope s_exposure_rows) .none kV dc pm an cd ct), sl⟩) (c : PySem.W.codeIn K cd "exposure_rows" = true) (k : PySem.W.keepIn K (.ref f) = true) : FunA K mg "exposure_rows" s_exposure_rows ["rows", "experiment"] f :=
  ⟨_, PySem.W.mg_of X G a, fun_mk l c k, (fun_mk (st := s_exposure_rows) l c k).binds (ps := ["rows", "experiment"]) fun _ _ _ _ _ _ us hl => match us, hl with | [_, _], _ => rfl⟩
theorem fa_participation (X : K.In h) (G : h.Ns mainGlobals mg) {f : Addr} {od an : Option Addr} {sl : Array (Option Value)} {oc kV dc pm cd ct : Value} (a : PySem.W.nsIn K mainGlobals "participation" = some (some (.ref f))) (l : K.lookup f = some ⟨oc, od, .func (PySem.W.fnOf "participation" "participation" (defArgs s_participation) (defBody s_participation) (defScope s_participation) .none kV dc pm an cd ct), sl⟩) (c : PySem.W.codeIn K cd "participation" = true) (k : PySem.W.keepIn K (.ref f) = true) : FunA K mg "participation" s_participation ["rows", "experiment"] f :=
  ⟨_, PySem.W.mg_of X G a, fun_mk l c k, (fun_mk (st := s_participation) l c k).binds (ps := ["rows", "experiment"]) fun _ _ _ _ _ _ us hl => match us, hl with | [_, _], _ => rfl⟩
theorem fa_rows_by_unit (X : K.In h) (G : h.Ns mainGlobals mg) {f : Addr} {od an : Option Addr} {sl : Array (Option Value)} {oc kV dc pm cd ct : Value} (a : PySem.W.nsIn K mainGlobals "rows_by_unit" = some (some (.ref f))) (l : K.lookup f = some ⟨oc, od, .func (PySem.W.fnOf "rows_by_unit" "rows_by_unit" (defArgs s_rows_by_unit) (defBody s_rows_by_unit) (defScope s_rows_by_unit) .none kV dc pm an cd ct), sl⟩) (c : PySem.W.codeIn K cd "rows_by_unit" = true) (k : PySem.W.keepIn K (.ref f) = true) : FunA K mg "rows_by_unit" s_rows_by_unit ["ledger"] f :=
  ⟨_, PySem.W.mg_of X G a, fun_mk l c k, (fun_mk (st := s_rows_by_unit) l c k).binds (ps := ["ledger"]) fun _ _ _ _ _ _ us hl => match us, hl with | [_], _ => rfl⟩
theorem fa_standings (X : K.In h) (G : h.Ns mainGlobals mg) {f : Addr} {od an : Option Addr} {sl : Array (Option Value)} {oc kV dc pm cd ct : Value} (a : PySem.W.nsIn K mainGlobals "standings" = some (some (.ref f))) (l : K.lookup f = some ⟨oc, od, .func (PySem.W.fnOf "standings" "standings" (defArgs s_standings) (defBody s_standings) (defScope s_standings) .none kV dc pm an cd ct), sl⟩) (c : PySem.W.codeIn K cd "standings" = true) (k : PySem.W.keepIn K (.ref f) = true) : FunA K mg "standings" s_standings ["ledger", "experiment"] f :=
  ⟨_, PySem.W.mg_of X G a, fun_mk l c k, (fun_mk (st := s_standings) l c k).binds (ps := ["ledger", "experiment"]) fun _ _ _ _ _ _ us hl => match us, hl with | [_, _], _ => rfl⟩
theorem fa_participants (X : K.In h) (G : h.Ns mainGlobals mg) {f : Addr} {od an : Option Addr} {sl : Array (Option Value)} {oc kV dc pm cd ct : Value} (a : PySem.W.nsIn K mainGlobals "participants" = some (some (.ref f))) (l : K.lookup f = some ⟨oc, od, .func (PySem.W.fnOf "participants" "participants" (defArgs s_participants) (defBody s_participants) (defScope s_participants) .none kV dc pm an cd ct), sl⟩) (c : PySem.W.codeIn K cd "participants" = true) (k : PySem.W.keepIn K (.ref f) = true) : FunA K mg "participants" s_participants ["ledger", "experiment"] f :=
  ⟨_, PySem.W.mg_of X G a, fun_mk l c k, (fun_mk (st := s_participants) l c k).binds (ps := ["ledger", "experiment"]) fun _ _ _ _ _ _ us hl => match us, hl with | [_, _], _ => rfl⟩
theorem fa_metric_value (X : K.In h) (G : h.Ns mainGlobals mg) {f : Addr} {od an : Option Addr} {sl : Array (Option Value)} {oc kV dc pm cd ct : Value} (a : PySem.W.nsIn K mainGlobals "metric_value" = some (some (.ref f))) (l : K.lookup f = some ⟨oc, od, .func (PySem.W.fnOf "metric_value" "metric_value" (defArgs s_metric_value) (defBody s_metric_value) (defScope s_metric_value) .none kV dc pm an cd ct), sl⟩) (c : PySem.W.codeIn K cd "metric_value" = true) (k : PySem.W.keepIn K (.ref f) = true) : FunA K mg "metric_value" s_metric_value ["rows", "start", "metric"] f :=
  ⟨_, PySem.W.mg_of X G a, fun_mk l c k, (fun_mk (st := s_metric_value) l c k).binds (ps := ["rows", "start", "metric"]) fun _ _ _ _ _ _ us hl => match us, hl with | [_, _, _], _ => rfl⟩
theorem fa_variant_units (X : K.In h) (G : h.Ns mainGlobals mg) {f : Addr} {od an : Option Addr} {sl : Array (Option Value)} {oc kV dc pm cd ct : Value} (a : PySem.W.nsIn K mainGlobals "variant_units" = some (some (.ref f))) (l : K.lookup f = some ⟨oc, od, .func (PySem.W.fnOf "variant_units" "variant_units" (defArgs s_variant_units) (defBody s_variant_units) (defScope s_variant_units) .none kV dc pm an cd ct), sl⟩) (c : PySem.W.codeIn K cd "variant_units" = true) (k : PySem.W.keepIn K (.ref f) = true) : FunA K mg "variant_units" s_variant_units ["ledger", "experiment", "variant"] f :=
  ⟨_, PySem.W.mg_of X G a, fun_mk l c k, (fun_mk (st := s_variant_units) l c k).binds (ps := ["ledger", "experiment", "variant"]) fun _ _ _ _ _ _ us hl => match us, hl with | [_, _, _], _ => rfl⟩
theorem fa_next_time (X : K.In h) (G : h.Ns mainGlobals mg) {f : Addr} {od an : Option Addr} {sl : Array (Option Value)} {oc kV dc pm cd ct : Value} (a : PySem.W.nsIn K mainGlobals "next_time" = some (some (.ref f))) (l : K.lookup f = some ⟨oc, od, .func (PySem.W.fnOf "next_time" "next_time" (defArgs s_next_time) (defBody s_next_time) (defScope s_next_time) .none kV dc pm an cd ct), sl⟩) (c : PySem.W.codeIn K cd "next_time" = true) (k : PySem.W.keepIn K (.ref f) = true) : FunA K mg "next_time" s_next_time ["rows", "name", "start"] f :=
  ⟨_, PySem.W.mg_of X G a, fun_mk l c k, (fun_mk (st := s_next_time) l c k).binds (ps := ["rows", "name", "start"]) fun _ _ _ _ _ _ us hl => match us, hl with | [_, _, _], _ => rfl⟩
theorem fa_funnel_depth (X : K.In h) (G : h.Ns mainGlobals mg) {f : Addr} {od an : Option Addr} {sl : Array (Option Value)} {oc kV dc pm cd ct : Value} (a : PySem.W.nsIn K mainGlobals "funnel_depth" = some (some (.ref f))) (l : K.lookup f = some ⟨oc, od, .func (PySem.W.fnOf "funnel_depth" "funnel_depth" (defArgs s_funnel_depth) (defBody s_funnel_depth) (defScope s_funnel_depth) .none kV dc pm an cd ct), sl⟩) (c : PySem.W.codeIn K cd "funnel_depth" = true) (k : PySem.W.keepIn K (.ref f) = true) : FunA K mg "funnel_depth" s_funnel_depth ["rows", "start", "names"] f :=
  ⟨_, PySem.W.mg_of X G a, fun_mk l c k, (fun_mk (st := s_funnel_depth) l c k).binds (ps := ["rows", "start", "names"]) fun _ _ _ _ _ _ us hl => match us, hl with | [_, _, _], _ => rfl⟩
theorem fa_is_active (X : K.In h) (G : h.Ns mainGlobals mg) {f : Addr} {od an : Option Addr} {sl : Array (Option Value)} {oc kV dc pm cd ct : Value} (a : PySem.W.nsIn K mainGlobals "is_active" = some (some (.ref f))) (l : K.lookup f = some ⟨oc, od, .func (PySem.W.fnOf "is_active" "is_active" (defArgs s_is_active) (defBody s_is_active) (defScope s_is_active) .none kV dc pm an cd ct), sl⟩) (c : PySem.W.codeIn K cd "is_active" = true) (k : PySem.W.keepIn K (.ref f) = true) : FunA K mg "is_active" s_is_active ["rows", "start", "length", "period"] f :=
  ⟨_, PySem.W.mg_of X G a, fun_mk l c k, (fun_mk (st := s_is_active) l c k).binds (ps := ["rows", "start", "length", "period"]) fun _ _ _ _ _ _ us hl => match us, hl with | [_, _, _, _], _ => rfl⟩
theorem fa_session_sizes (X : K.In h) (G : h.Ns mainGlobals mg) {f : Addr} {od an : Option Addr} {sl : Array (Option Value)} {oc kV dc pm cd ct : Value} (a : PySem.W.nsIn K mainGlobals "session_sizes" = some (some (.ref f))) (l : K.lookup f = some ⟨oc, od, .func (PySem.W.fnOf "session_sizes" "session_sizes" (defArgs s_session_sizes) (defBody s_session_sizes) (defScope s_session_sizes) .none kV dc pm an cd ct), sl⟩) (c : PySem.W.codeIn K cd "session_sizes" = true) (k : PySem.W.keepIn K (.ref f) = true) : FunA K mg "session_sizes" s_session_sizes ["rows", "gap"] f :=
  ⟨_, PySem.W.mg_of X G a, fun_mk l c k, (fun_mk (st := s_session_sizes) l c k).binds (ps := ["rows", "gap"]) fun _ _ _ _ _ _ us hl => match us, hl with | [_, _], _ => rfl⟩
theorem fa_with_count (X : K.In h) (G : h.Ns mainGlobals mg) {f : Addr} {od an : Option Addr} {sl : Array (Option Value)} {oc kV dc pm cd ct : Value} (a : PySem.W.nsIn K mainGlobals "with_count" = some (some (.ref f))) (l : K.lookup f = some ⟨oc, od, .func (PySem.W.fnOf "with_count" "with_count" (defArgs s_with_count) (defBody s_with_count) (defScope s_with_count) .none kV dc pm an cd ct), sl⟩) (c : PySem.W.codeIn K cd "with_count" = true) (k : PySem.W.keepIn K (.ref f) = true) : FunA K mg "with_count" s_with_count ["row"] f :=
  ⟨_, PySem.W.mg_of X G a, fun_mk l c k, (fun_mk (st := s_with_count) l c k).binds (ps := ["row"]) fun _ _ _ _ _ _ us hl => match us, hl with | [_], _ => rfl⟩
theorem fa_stored (X : K.In h) (G : h.Ns mainGlobals mg) {f : Addr} {od an : Option Addr} {sl : Array (Option Value)} {oc kV dc pm cd ct : Value} (a : PySem.W.nsIn K mainGlobals "stored" = some (some (.ref f))) (l : K.lookup f = some ⟨oc, od, .func (PySem.W.fnOf "stored" "stored" (defArgs s_stored) (defBody s_stored) (defScope s_stored) .none kV dc pm an cd ct), sl⟩) (c : PySem.W.codeIn K cd "stored" = true) (k : PySem.W.keepIn K (.ref f) = true) : FunA K mg "stored" s_stored ["ledger", "number", "content"] f :=
  ⟨_, PySem.W.mg_of X G a, fun_mk l c k, (fun_mk (st := s_stored) l c k).binds (ps := ["ledger", "number", "content"]) fun _ _ _ _ _ _ us hl => match us, hl with | [_, _, _], _ => rfl⟩
theorem fa_advance (X : K.In h) (G : h.Ns mainGlobals mg) {f : Addr} {od an : Option Addr} {sl : Array (Option Value)} {oc kV dc pm cd ct : Value} (a : PySem.W.nsIn K mainGlobals "advance" = some (some (.ref f))) (l : K.lookup f = some ⟨oc, od, .func (PySem.W.fnOf "advance" "advance" (defArgs s_advance) (defBody s_advance) (defScope s_advance) .none kV dc pm an cd ct), sl⟩) (c : PySem.W.codeIn K cd "advance" = true) (k : PySem.W.keepIn K (.ref f) = true) : FunA K mg "advance" s_advance ["ledger", "numbers", "names"] f :=
  ⟨_, PySem.W.mg_of X G a, fun_mk l c k, (fun_mk (st := s_advance) l c k).binds (ps := ["ledger", "numbers", "names"]) fun _ _ _ _ _ _ us hl => match us, hl with | [_, _, _], _ => rfl⟩
theorem fa_expose (X : K.In h) (G : h.Ns mainGlobals mg) {f : Addr} {od an : Option Addr} {sl : Array (Option Value)} {oc kV dc pm cd ct : Value} (a : PySem.W.nsIn K mainGlobals "expose" = some (some (.ref f))) (l : K.lookup f = some ⟨oc, od, .func (PySem.W.fnOf "expose" "expose" (defArgs s_expose) (defBody s_expose) (defScope s_expose) .none kV dc pm an cd ct), sl⟩) (c : PySem.W.codeIn K cd "expose" = true) (k : PySem.W.keepIn K (.ref f) = true) : FunA K mg "expose" s_expose ["ledger", "numbers", "names"] f :=
  ⟨_, PySem.W.mg_of X G a, fun_mk l c k, (fun_mk (st := s_expose) l c k).binds (ps := ["ledger", "numbers", "names"]) fun _ _ _ _ _ _ us hl => match us, hl with | [_, _, _], _ => rfl⟩
theorem fa_record_event (X : K.In h) (G : h.Ns mainGlobals mg) {f : Addr} {od an : Option Addr} {sl : Array (Option Value)} {oc kV dc pm cd ct : Value} (a : PySem.W.nsIn K mainGlobals "record_event" = some (some (.ref f))) (l : K.lookup f = some ⟨oc, od, .func (PySem.W.fnOf "record_event" "record_event" (defArgs s_record_event) (defBody s_record_event) (defScope s_record_event) .none kV dc pm an cd ct), sl⟩) (c : PySem.W.codeIn K cd "record_event" = true) (k : PySem.W.keepIn K (.ref f) = true) : FunA K mg "record_event" s_record_event ["ledger", "numbers", "names"] f :=
  ⟨_, PySem.W.mg_of X G a, fun_mk l c k, (fun_mk (st := s_record_event) l c k).binds (ps := ["ledger", "numbers", "names"]) fun _ _ _ _ _ _ us hl => match us, hl with | [_, _, _], _ => rfl⟩
theorem fa_retract (X : K.In h) (G : h.Ns mainGlobals mg) {f : Addr} {od an : Option Addr} {sl : Array (Option Value)} {oc kV dc pm cd ct : Value} (a : PySem.W.nsIn K mainGlobals "retract" = some (some (.ref f))) (l : K.lookup f = some ⟨oc, od, .func (PySem.W.fnOf "retract" "retract" (defArgs s_retract) (defBody s_retract) (defScope s_retract) .none kV dc pm an cd ct), sl⟩) (c : PySem.W.codeIn K cd "retract" = true) (k : PySem.W.keepIn K (.ref f) = true) : FunA K mg "retract" s_retract ["ledger", "numbers", "names"] f :=
  ⟨_, PySem.W.mg_of X G a, fun_mk l c k, (fun_mk (st := s_retract) l c k).binds (ps := ["ledger", "numbers", "names"]) fun _ _ _ _ _ _ us hl => match us, hl with | [_, _, _], _ => rfl⟩
theorem fa_set_lateness (X : K.In h) (G : h.Ns mainGlobals mg) {f : Addr} {od an : Option Addr} {sl : Array (Option Value)} {oc kV dc pm cd ct : Value} (a : PySem.W.nsIn K mainGlobals "set_lateness" = some (some (.ref f))) (l : K.lookup f = some ⟨oc, od, .func (PySem.W.fnOf "set_lateness" "set_lateness" (defArgs s_set_lateness) (defBody s_set_lateness) (defScope s_set_lateness) .none kV dc pm an cd ct), sl⟩) (c : PySem.W.codeIn K cd "set_lateness" = true) (k : PySem.W.keepIn K (.ref f) = true) : FunA K mg "set_lateness" s_set_lateness ["ledger", "numbers", "names"] f :=
  ⟨_, PySem.W.mg_of X G a, fun_mk l c k, (fun_mk (st := s_set_lateness) l c k).binds (ps := ["ledger", "numbers", "names"]) fun _ _ _ _ _ _ us hl => match us, hl with | [_, _, _], _ => rfl⟩
theorem fa_set_horizon (X : K.In h) (G : h.Ns mainGlobals mg) {f : Addr} {od an : Option Addr} {sl : Array (Option Value)} {oc kV dc pm cd ct : Value} (a : PySem.W.nsIn K mainGlobals "set_horizon" = some (some (.ref f))) (l : K.lookup f = some ⟨oc, od, .func (PySem.W.fnOf "set_horizon" "set_horizon" (defArgs s_set_horizon) (defBody s_set_horizon) (defScope s_set_horizon) .none kV dc pm an cd ct), sl⟩) (c : PySem.W.codeIn K cd "set_horizon" = true) (k : PySem.W.keepIn K (.ref f) = true) : FunA K mg "set_horizon" s_set_horizon ["ledger", "numbers", "names"] f :=
  ⟨_, PySem.W.mg_of X G a, fun_mk l c k, (fun_mk (st := s_set_horizon) l c k).binds (ps := ["ledger", "numbers", "names"]) fun _ _ _ _ _ _ us hl => match us, hl with | [_, _, _], _ => rfl⟩
theorem fa_clear_horizon (X : K.In h) (G : h.Ns mainGlobals mg) {f : Addr} {od an : Option Addr} {sl : Array (Option Value)} {oc kV dc pm cd ct : Value} (a : PySem.W.nsIn K mainGlobals "clear_horizon" = some (some (.ref f))) (l : K.lookup f = some ⟨oc, od, .func (PySem.W.fnOf "clear_horizon" "clear_horizon" (defArgs s_clear_horizon) (defBody s_clear_horizon) (defScope s_clear_horizon) .none kV dc pm an cd ct), sl⟩) (c : PySem.W.codeIn K cd "clear_horizon" = true) (k : PySem.W.keepIn K (.ref f) = true) : FunA K mg "clear_horizon" s_clear_horizon ["ledger", "numbers", "names"] f :=
  ⟨_, PySem.W.mg_of X G a, fun_mk l c k, (fun_mk (st := s_clear_horizon) l c k).binds (ps := ["ledger", "numbers", "names"]) fun _ _ _ _ _ _ us hl => match us, hl with | [_, _, _], _ => rfl⟩
theorem fa_counts (X : K.In h) (G : h.Ns mainGlobals mg) {f : Addr} {od an : Option Addr} {sl : Array (Option Value)} {oc kV dc pm cd ct : Value} (a : PySem.W.nsIn K mainGlobals "counts" = some (some (.ref f))) (l : K.lookup f = some ⟨oc, od, .func (PySem.W.fnOf "counts" "counts" (defArgs s_counts) (defBody s_counts) (defScope s_counts) .none kV dc pm an cd ct), sl⟩) (c : PySem.W.codeIn K cd "counts" = true) (k : PySem.W.keepIn K (.ref f) = true) : FunA K mg "counts" s_counts ["ledger", "numbers", "names"] f :=
  ⟨_, PySem.W.mg_of X G a, fun_mk l c k, (fun_mk (st := s_counts) l c k).binds (ps := ["ledger", "numbers", "names"]) fun _ _ _ _ _ _ us hl => match us, hl with | [_, _, _], _ => rfl⟩
theorem fa_get_record (X : K.In h) (G : h.Ns mainGlobals mg) {f : Addr} {od an : Option Addr} {sl : Array (Option Value)} {oc kV dc pm cd ct : Value} (a : PySem.W.nsIn K mainGlobals "get_record" = some (some (.ref f))) (l : K.lookup f = some ⟨oc, od, .func (PySem.W.fnOf "get_record" "get_record" (defArgs s_get_record) (defBody s_get_record) (defScope s_get_record) .none kV dc pm an cd ct), sl⟩) (c : PySem.W.codeIn K cd "get_record" = true) (k : PySem.W.keepIn K (.ref f) = true) : FunA K mg "get_record" s_get_record ["ledger", "numbers", "names"] f :=
  ⟨_, PySem.W.mg_of X G a, fun_mk l c k, (fun_mk (st := s_get_record) l c k).binds (ps := ["ledger", "numbers", "names"]) fun _ _ _ _ _ _ us hl => match us, hl with | [_, _, _], _ => rfl⟩
theorem fa_effective (X : K.In h) (G : h.Ns mainGlobals mg) {f : Addr} {od an : Option Addr} {sl : Array (Option Value)} {oc kV dc pm cd ct : Value} (a : PySem.W.nsIn K mainGlobals "effective" = some (some (.ref f))) (l : K.lookup f = some ⟨oc, od, .func (PySem.W.fnOf "effective" "effective" (defArgs s_effective) (defBody s_effective) (defScope s_effective) .none kV dc pm an cd ct), sl⟩) (c : PySem.W.codeIn K cd "effective" = true) (k : PySem.W.keepIn K (.ref f) = true) : FunA K mg "effective" s_effective ["ledger", "numbers", "names"] f :=
  ⟨_, PySem.W.mg_of X G a, fun_mk l c k, (fun_mk (st := s_effective) l c k).binds (ps := ["ledger", "numbers", "names"]) fun _ _ _ _ _ _ us hl => match us, hl with | [_, _, _], _ => rfl⟩
theorem fa_first_exposure (X : K.In h) (G : h.Ns mainGlobals mg) {f : Addr} {od an : Option Addr} {sl : Array (Option Value)} {oc kV dc pm cd ct : Value} (a : PySem.W.nsIn K mainGlobals "first_exposure" = some (some (.ref f))) (l : K.lookup f = some ⟨oc, od, .func (PySem.W.fnOf "first_exposure" "first_exposure" (defArgs s_first_exposure) (defBody s_first_exposure) (defScope s_first_exposure) .none kV dc pm an cd ct), sl⟩) (c : PySem.W.codeIn K cd "first_exposure" = true) (k : PySem.W.keepIn K (.ref f) = true) : FunA K mg "first_exposure" s_first_exposure ["ledger", "numbers", "names"] f :=
  ⟨_, PySem.W.mg_of X G a, fun_mk l c k, (fun_mk (st := s_first_exposure) l c k).binds (ps := ["ledger", "numbers", "names"]) fun _ _ _ _ _ _ us hl => match us, hl with | [_, _, _], _ => rfl⟩
theorem fa_tell_participants (X : K.In h) (G : h.Ns mainGlobals mg) {f : Addr} {od an : Option Addr} {sl : Array (Option Value)} {oc kV dc pm cd ct : Value} (a : PySem.W.nsIn K mainGlobals "tell_participants" = some (some (.ref f))) (l : K.lookup f = some ⟨oc, od, .func (PySem.W.fnOf "tell_participants" "tell_participants" (defArgs s_tell_participants) (defBody s_tell_participants) (defScope s_tell_participants) .none kV dc pm an cd ct), sl⟩) (c : PySem.W.codeIn K cd "tell_participants" = true) (k : PySem.W.keepIn K (.ref f) = true) : FunA K mg "tell_participants" s_tell_participants ["ledger", "numbers", "names"] f :=
  ⟨_, PySem.W.mg_of X G a, fun_mk l c k, (fun_mk (st := s_tell_participants) l c k).binds (ps := ["ledger", "numbers", "names"]) fun _ _ _ _ _ _ us hl => match us, hl with | [_, _, _], _ => rfl⟩
theorem fa_units_of_variant (X : K.In h) (G : h.Ns mainGlobals mg) {f : Addr} {od an : Option Addr} {sl : Array (Option Value)} {oc kV dc pm cd ct : Value} (a : PySem.W.nsIn K mainGlobals "units_of_variant" = some (some (.ref f))) (l : K.lookup f = some ⟨oc, od, .func (PySem.W.fnOf "units_of_variant" "units_of_variant" (defArgs s_units_of_variant) (defBody s_units_of_variant) (defScope s_units_of_variant) .none kV dc pm an cd ct), sl⟩) (c : PySem.W.codeIn K cd "units_of_variant" = true) (k : PySem.W.keepIn K (.ref f) = true) : FunA K mg "units_of_variant" s_units_of_variant ["ledger", "numbers", "names"] f :=
  ⟨_, PySem.W.mg_of X G a, fun_mk l c k, (fun_mk (st := s_units_of_variant) l c k).binds (ps := ["ledger", "numbers", "names"]) fun _ _ _ _ _ _ us hl => match us, hl with | [_, _, _], _ => rfl⟩
theorem fa_conflicted (X : K.In h) (G : h.Ns mainGlobals mg) {f : Addr} {od an : Option Addr} {sl : Array (Option Value)} {oc kV dc pm cd ct : Value} (a : PySem.W.nsIn K mainGlobals "conflicted" = some (some (.ref f))) (l : K.lookup f = some ⟨oc, od, .func (PySem.W.fnOf "conflicted" "conflicted" (defArgs s_conflicted) (defBody s_conflicted) (defScope s_conflicted) .none kV dc pm an cd ct), sl⟩) (c : PySem.W.codeIn K cd "conflicted" = true) (k : PySem.W.keepIn K (.ref f) = true) : FunA K mg "conflicted" s_conflicted ["ledger", "numbers", "names"] f :=
  ⟨_, PySem.W.mg_of X G a, fun_mk l c k, (fun_mk (st := s_conflicted) l c k).binds (ps := ["ledger", "numbers", "names"]) fun _ _ _ _ _ _ us hl => match us, hl with | [_, _, _], _ => rfl⟩
theorem fa_value (X : K.In h) (G : h.Ns mainGlobals mg) {f : Addr} {od an : Option Addr} {sl : Array (Option Value)} {oc kV dc pm cd ct : Value} (a : PySem.W.nsIn K mainGlobals "value" = some (some (.ref f))) (l : K.lookup f = some ⟨oc, od, .func (PySem.W.fnOf "value" "value" (defArgs s_value) (defBody s_value) (defScope s_value) .none kV dc pm an cd ct), sl⟩) (c : PySem.W.codeIn K cd "value" = true) (k : PySem.W.keepIn K (.ref f) = true) : FunA K mg "value" s_value ["ledger", "numbers", "names"] f :=
  ⟨_, PySem.W.mg_of X G a, fun_mk l c k, (fun_mk (st := s_value) l c k).binds (ps := ["ledger", "numbers", "names"]) fun _ _ _ _ _ _ us hl => match us, hl with | [_, _, _], _ => rfl⟩
theorem fa_totals (X : K.In h) (G : h.Ns mainGlobals mg) {f : Addr} {od an : Option Addr} {sl : Array (Option Value)} {oc kV dc pm cd ct : Value} (a : PySem.W.nsIn K mainGlobals "totals" = some (some (.ref f))) (l : K.lookup f = some ⟨oc, od, .func (PySem.W.fnOf "totals" "totals" (defArgs s_totals) (defBody s_totals) (defScope s_totals) .none kV dc pm an cd ct), sl⟩) (c : PySem.W.codeIn K cd "totals" = true) (k : PySem.W.keepIn K (.ref f) = true) : FunA K mg "totals" s_totals ["ledger", "numbers", "names"] f :=
  ⟨_, PySem.W.mg_of X G a, fun_mk l c k, (fun_mk (st := s_totals) l c k).binds (ps := ["ledger", "numbers", "names"]) fun _ _ _ _ _ _ us hl => match us, hl with | [_, _, _], _ => rfl⟩
theorem fa_funnel (X : K.In h) (G : h.Ns mainGlobals mg) {f : Addr} {od an : Option Addr} {sl : Array (Option Value)} {oc kV dc pm cd ct : Value} (a : PySem.W.nsIn K mainGlobals "funnel" = some (some (.ref f))) (l : K.lookup f = some ⟨oc, od, .func (PySem.W.fnOf "funnel" "funnel" (defArgs s_funnel) (defBody s_funnel) (defScope s_funnel) .none kV dc pm an cd ct), sl⟩) (c : PySem.W.codeIn K cd "funnel" = true) (k : PySem.W.keepIn K (.ref f) = true) : FunA K mg "funnel" s_funnel ["ledger", "numbers", "names"] f :=
  ⟨_, PySem.W.mg_of X G a, fun_mk l c k, (fun_mk (st := s_funnel) l c k).binds (ps := ["ledger", "numbers", "names"]) fun _ _ _ _ _ _ us hl => match us, hl with | [_, _, _], _ => rfl⟩
theorem fa_retention (X : K.In h) (G : h.Ns mainGlobals mg) {f : Addr} {od an : Option Addr} {sl : Array (Option Value)} {oc kV dc pm cd ct : Value} (a : PySem.W.nsIn K mainGlobals "retention" = some (some (.ref f))) (l : K.lookup f = some ⟨oc, od, .func (PySem.W.fnOf "retention" "retention" (defArgs s_retention) (defBody s_retention) (defScope s_retention) .none kV dc pm an cd ct), sl⟩) (c : PySem.W.codeIn K cd "retention" = true) (k : PySem.W.keepIn K (.ref f) = true) : FunA K mg "retention" s_retention ["ledger", "numbers", "names"] f :=
  ⟨_, PySem.W.mg_of X G a, fun_mk l c k, (fun_mk (st := s_retention) l c k).binds (ps := ["ledger", "numbers", "names"]) fun _ _ _ _ _ _ us hl => match us, hl with | [_, _, _], _ => rfl⟩
theorem fa_sessions (X : K.In h) (G : h.Ns mainGlobals mg) {f : Addr} {od an : Option Addr} {sl : Array (Option Value)} {oc kV dc pm cd ct : Value} (a : PySem.W.nsIn K mainGlobals "sessions" = some (some (.ref f))) (l : K.lookup f = some ⟨oc, od, .func (PySem.W.fnOf "sessions" "sessions" (defArgs s_sessions) (defBody s_sessions) (defScope s_sessions) .none kV dc pm an cd ct), sl⟩) (c : PySem.W.codeIn K cd "sessions" = true) (k : PySem.W.keepIn K (.ref f) = true) : FunA K mg "sessions" s_sessions ["ledger", "numbers", "names"] f :=
  ⟨_, PySem.W.mg_of X G a, fun_mk l c k, (fun_mk (st := s_sessions) l c k).binds (ps := ["ledger", "numbers", "names"]) fun _ _ _ _ _ _ us hl => match us, hl with | [_, _, _], _ => rfl⟩
theorem fa_timeline (X : K.In h) (G : h.Ns mainGlobals mg) {f : Addr} {od an : Option Addr} {sl : Array (Option Value)} {oc kV dc pm cd ct : Value} (a : PySem.W.nsIn K mainGlobals "timeline" = some (some (.ref f))) (l : K.lookup f = some ⟨oc, od, .func (PySem.W.fnOf "timeline" "timeline" (defArgs s_timeline) (defBody s_timeline) (defScope s_timeline) .none kV dc pm an cd ct), sl⟩) (c : PySem.W.codeIn K cd "timeline" = true) (k : PySem.W.keepIn K (.ref f) = true) : FunA K mg "timeline" s_timeline ["ledger", "numbers", "names"] f :=
  ⟨_, PySem.W.mg_of X G a, fun_mk l c k, (fun_mk (st := s_timeline) l c k).binds (ps := ["ledger", "numbers", "names"]) fun _ _ _ _ _ _ us hl => match us, hl with | [_, _, _], _ => rfl⟩
theorem fa_shared (X : K.In h) (G : h.Ns mainGlobals mg) {f : Addr} {od an : Option Addr} {sl : Array (Option Value)} {oc kV dc pm cd ct : Value} (a : PySem.W.nsIn K mainGlobals "shared" = some (some (.ref f))) (l : K.lookup f = some ⟨oc, od, .func (PySem.W.fnOf "shared" "shared" (defArgs s_shared) (defBody s_shared) (defScope s_shared) .none kV dc pm an cd ct), sl⟩) (c : PySem.W.codeIn K cd "shared" = true) (k : PySem.W.keepIn K (.ref f) = true) : FunA K mg "shared" s_shared ["ledger", "numbers", "names"] f :=
  ⟨_, PySem.W.mg_of X G a, fun_mk l c k, (fun_mk (st := s_shared) l c k).binds (ps := ["ledger", "numbers", "names"]) fun _ _ _ _ _ _ us hl => match us, hl with | [_, _, _], _ => rfl⟩
theorem fa_cross_counts (X : K.In h) (G : h.Ns mainGlobals mg) {f : Addr} {od an : Option Addr} {sl : Array (Option Value)} {oc kV dc pm cd ct : Value} (a : PySem.W.nsIn K mainGlobals "cross_counts" = some (some (.ref f))) (l : K.lookup f = some ⟨oc, od, .func (PySem.W.fnOf "cross_counts" "cross_counts" (defArgs s_cross_counts) (defBody s_cross_counts) (defScope s_cross_counts) .none kV dc pm an cd ct), sl⟩) (c : PySem.W.codeIn K cd "cross_counts" = true) (k : PySem.W.keepIn K (.ref f) = true) : FunA K mg "cross_counts" s_cross_counts ["ledger", "numbers", "names"] f :=
  ⟨_, PySem.W.mg_of X G a, fun_mk l c k, (fun_mk (st := s_cross_counts) l c k).binds (ps := ["ledger", "numbers", "names"]) fun _ _ _ _ _ _ us hl => match us, hl with | [_, _, _], _ => rfl⟩
theorem fa_summary (X : K.In h) (G : h.Ns mainGlobals mg) {f : Addr} {od an : Option Addr} {sl : Array (Option Value)} {oc kV dc pm cd ct : Value} (a : PySem.W.nsIn K mainGlobals "summary" = some (some (.ref f))) (l : K.lookup f = some ⟨oc, od, .func (PySem.W.fnOf "summary" "summary" (defArgs s_summary) (defBody s_summary) (defScope s_summary) .none kV dc pm an cd ct), sl⟩) (c : PySem.W.codeIn K cd "summary" = true) (k : PySem.W.keepIn K (.ref f) = true) : FunA K mg "summary" s_summary ["ledger", "numbers", "names"] f :=
  ⟨_, PySem.W.mg_of X G a, fun_mk l c k, (fun_mk (st := s_summary) l c k).binds (ps := ["ledger", "numbers", "names"]) fun _ _ _ _ _ _ us hl => match us, hl with | [_, _, _], _ => rfl⟩
theorem fa_is_fit (X : K.In h) (G : h.Ns mainGlobals mg) {f : Addr} {od an : Option Addr} {sl : Array (Option Value)} {oc kV dc pm cd ct : Value} (a : PySem.W.nsIn K mainGlobals "is_fit" = some (some (.ref f))) (l : K.lookup f = some ⟨oc, od, .func (PySem.W.fnOf "is_fit" "is_fit" (defArgs s_is_fit) (defBody s_is_fit) (defScope s_is_fit) .none kV dc pm an cd ct), sl⟩) (c : PySem.W.codeIn K cd "is_fit" = true) (k : PySem.W.keepIn K (.ref f) = true) : FunA K mg "is_fit" s_is_fit ["form", "number"] f :=
  ⟨_, PySem.W.mg_of X G a, fun_mk l c k, (fun_mk (st := s_is_fit) l c k).binds (ps := ["form", "number"]) fun _ _ _ _ _ _ us hl => match us, hl with | [_, _], _ => rfl⟩
theorem fa_are_names (X : K.In h) (G : h.Ns mainGlobals mg) {f : Addr} {od an : Option Addr} {sl : Array (Option Value)} {oc kV dc pm cd ct : Value} (a : PySem.W.nsIn K mainGlobals "are_names" = some (some (.ref f))) (l : K.lookup f = some ⟨oc, od, .func (PySem.W.fnOf "are_names" "are_names" (defArgs s_are_names) (defBody s_are_names) (defScope s_are_names) .none kV dc pm an cd ct), sl⟩) (c : PySem.W.codeIn K cd "are_names" = true) (k : PySem.W.keepIn K (.ref f) = true) : FunA K mg "are_names" s_are_names ["names"] f :=
  ⟨_, PySem.W.mg_of X G a, fun_mk l c k, (fun_mk (st := s_are_names) l c k).binds (ps := ["names"]) fun _ _ _ _ _ _ us hl => match us, hl with | [_], _ => rfl⟩
theorem fa_answer (X : K.In h) (G : h.Ns mainGlobals mg) {f : Addr} {od an : Option Addr} {sl : Array (Option Value)} {oc kV dc pm cd ct : Value} (a : PySem.W.nsIn K mainGlobals "answer" = some (some (.ref f))) (l : K.lookup f = some ⟨oc, od, .func (PySem.W.fnOf "answer" "answer" (defArgs s_answer) (defBody s_answer) (defScope s_answer) .none kV dc pm an cd ct), sl⟩) (c : PySem.W.codeIn K cd "answer" = true) (k : PySem.W.keepIn K (.ref f) = true) : FunA K mg "answer" s_answer ["ledger", "call", "numbers", "names"] f :=
  ⟨_, PySem.W.mg_of X G a, fun_mk l c k, (fun_mk (st := s_answer) l c k).binds (ps := ["ledger", "call", "numbers", "names"]) fun _ _ _ _ _ _ us hl => match us, hl with | [_, _, _, _], _ => rfl⟩
theorem fa_answers (X : K.In h) (G : h.Ns mainGlobals mg) {f : Addr} {od an : Option Addr} {sl : Array (Option Value)} {oc kV dc pm cd ct : Value} (a : PySem.W.nsIn K mainGlobals "answers" = some (some (.ref f))) (l : K.lookup f = some ⟨oc, od, .func (PySem.W.fnOf "answers" "answers" (defArgs s_answers) (defBody s_answers) (defScope s_answers) .none kV dc pm an cd ct), sl⟩) (c : PySem.W.codeIn K cd "answers" = true) (k : PySem.W.keepIn K (.ref f) = true) : FunA K mg "answers" s_answers ["calls"] f :=
  ⟨_, PySem.W.mg_of X G a, fun_mk l c k, (fun_mk (st := s_answers) l c k).binds (ps := ["calls"]) fun _ _ _ _ _ _ us hl => match us, hl with | [_], _ => rfl⟩
theorem ia_Entry (X : K.In h) (G : h.Ns mainGlobals mg) {C f : Addr} {od an : Option Addr} {sl : Array (Option Value)} {oc kV dc pm cd ct : Value} (aC : PySem.W.nsIn K mainGlobals "Entry" = some (some (.ref C))) (a : PySem.W.findIn K (.ref C) "__init__" = some (some (.ref f))) (i : PySem.W.isFn K (.ref f) = true) (l : K.lookup f = some ⟨oc, od, .func (PySem.W.fnOf "__init__" "Entry.__init__" (defArgs s_Entry_init) (defBody s_Entry_init) (defScope s_Entry_init) .none kV dc pm an cd ct), sl⟩) (c : PySem.W.codeIn K cd "Entry.__init__" = true) (k : PySem.W.keepIn K (.ref f) = true)
    (mk : PySem.W.makesIn K C = true) (kc : PySem.W.keepIn K (.ref C) = true) : InitA K mg "Entry" "Entry.__init__" s_Entry_init ["self", "number", "arrival", "content"] C :=
  ⟨f, _, PySem.W.mg_of X G aC, ⟨mk, a, i, kc⟩, fun_mk l c k, (fun_mk (st := s_Entry_init) l c k).binds (ps := ["self", "number", "arrival", "content"]) fun _ _ _ _ _ _ us hl => match us, hl with | [_, _, _, _], _ => rfl⟩
theorem ia_Ledger (X : K.In h) (G : h.Ns mainGlobals mg) {C f : Addr} {od an : Option Addr} {sl : Array (Option Value)} {oc kV dc pm cd ct : Value} (aC : PySem.W.nsIn K mainGlobals "Ledger" = some (some (.ref C))) (a : PySem.W.findIn K (.ref C) "__init__" = some (some (.ref f))) (i : PySem.W.isFn K (.ref f) = true) (l : K.lookup f = some ⟨oc, od, .func (PySem.W.fnOf "__init__" "Ledger.__init__" (defArgs s_Ledger_init) (defBody s_Ledger_init) (defScope s_Ledger_init) .none kV dc pm an cd ct), sl⟩) (c : PySem.W.codeIn K cd "Ledger.__init__" = true) (k : PySem.W.keepIn K (.ref f) = true)
    (mk : PySem.W.makesIn K C = true) (kc : PySem.W.keepIn K (.ref C) = true) : InitA K mg "Ledger" "Ledger.__init__" s_Ledger_init ["self", "lateness"] C :=
  ⟨f, _, PySem.W.mg_of X G aC, ⟨mk, a, i, kc⟩, fun_mk l c k, (fun_mk (st := s_Ledger_init) l c k).binds (ps := ["self", "lateness"]) fun _ _ _ _ _ _ us hl => match us, hl with | [_, _], _ => rfl⟩
theorem sx_none : ("" : Str) = strOf [] := by decide +kernel
theorem sx_c : ("c" : Str) = strOf [99] := by decide +kernel
theorem sx_d : ("d" : Str) = strOf [100] := by decide +kernel
theorem sx_e : ("e" : Str) = strOf [101] := by decide +kernel
theorem sx_g : ("g" : Str) = strOf [103] := by decide +kernel
theorem sx_i : ("i" : Str) = strOf [105] := by decide +kernel
theorem sx_iuewt : ("iuewt" : Str) = strOf [105, 117, 101, 119, 116] := by decide +kernel
theorem sx_iuxvt : ("iuxvt" : Str) = strOf [105, 117, 120, 118, 116] := by decide +kernel
theorem sx_n : ("n" : Str) = strOf [110] := by decide +kernel
theorem sx_p : ("p" : Str) = strOf [112] := by decide +kernel
theorem sx_t : ("t" : Str) = strOf [116] := by decide +kernel
theorem sx_u : ("u" : Str) = strOf [117] := by decide +kernel
theorem sx_ug : ("ug" : Str) = strOf [117, 103] := by decide +kernel
theorem sx_v : ("v" : Str) = strOf [118] := by decide +kernel
theorem sx_w : ("w" : Str) = strOf [119] := by decide +kernel
theorem sx_x : ("x" : Str) = strOf [120] := by decide +kernel
theorem sx_xu : ("xu" : Str) = strOf [120, 117] := by decide +kernel
theorem sx_xuyecd : ("xuyecd" : Str) = strOf [120, 117, 121, 101, 99, 100] := by decide +kernel
theorem sx_xv : ("xv" : Str) = strOf [120, 118] := by decide +kernel
theorem sx_xvdp : ("xvdp" : Str) = strOf [120, 118, 100, 112] := by decide +kernel
theorem sx_xvyecd : ("xvyecd" : Str) = strOf [120, 118, 121, 101, 99, 100] := by decide +kernel
theorem sx_xx : ("xx" : Str) = strOf [120, 120] := by decide +kernel
theorem sx_y : ("y" : Str) = strOf [121] := by decide +kernel
theorem txt_mk {cE cL ab co fo mo le de : Addr} (X : K.In h) (G : h.Ns mainGlobals mg) {t_EXPOSURE t_EVENT t_RETRACTION t_NO_HORIZON t_MOST_CLOCK t_MOST_ENTRIES t_CREATE t_FUNNEL t_MOST_NAMES ta1 ta2 tc1 tc2 tl1 tl2 tf0 tf1 tf2 tf3 tf4 tf5 tf6 tf7 tf8 tf9 tf10 tf11 tf12 tf13 tf14 tf15 tf16 tf17 tf18 tf19 tf20 tf21 tf22 tf23 tm_i tm_u tm_x tm_v tm_e tm_w tm_t tm_y tm_c tm_d tm_p tm_g tm_n : Tok} {d_ab d_co d_fo d_le : Option Addr} {n_ab n_co n_fo n_le nMo : Nat} {s_ab s_co s_fo s_le : Array (Option Value)} {es : Array DictEntry}
    (pgE : PySem.W.plainGet K cE Str.empty = true)
    (hdE : PySem.W.hasDictIn K cE = true)
    (poE : PySem.W.plainOver K cE = true)
    (saE : PySem.W.findIn K (.ref cE) "__setattr__" = some (some (.builtin "object.__setattr__")))
    (nE1 : PySem.W.findIn K (.ref cE) "number" = some none)
    (nE2 : PySem.W.findIn K (.ref cE) "arrival" = some none)
    (nE3 : PySem.W.findIn K (.ref cE) "content" = some none)
    (pgL : PySem.W.plainGet K cL Str.empty = true)
    (hdL : PySem.W.hasDictIn K cL = true)
    (poL : PySem.W.plainOver K cL = true)
    (saL : PySem.W.findIn K (.ref cL) "__setattr__" = some (some (.builtin "object.__setattr__")))
    (nL1 : PySem.W.findIn K (.ref cL) "clock" = some none)
    (nL2 : PySem.W.findIn K (.ref cL) "lateness" = some none)
    (nL3 : PySem.W.findIn K (.ref cL) "horizon" = some none)
    (nL4 : PySem.W.findIn K (.ref cL) "entries" = some none)
    (g_EXPOSURE : PySem.W.nsIn K mainGlobals "EXPOSURE" = some (some (.int 0 t_EXPOSURE)))
    (g_EVENT : PySem.W.nsIn K mainGlobals "EVENT" = some (some (.int 1 t_EVENT)))
    (g_RETRACTION : PySem.W.nsIn K mainGlobals "RETRACTION" = some (some (.int 2 t_RETRACTION)))
    (g_NO_HORIZON : PySem.W.nsIn K mainGlobals "NO_HORIZON" = some (some (.int (-1) t_NO_HORIZON)))
    (g_MOST_CLOCK : PySem.W.nsIn K mainGlobals "MOST_CLOCK" = some (some (.int 100000 t_MOST_CLOCK)))
    (g_MOST_ENTRIES : PySem.W.nsIn K mainGlobals "MOST_ENTRIES" = some (some (.int 60 t_MOST_ENTRIES)))
    (g_CREATE : PySem.W.nsIn K mainGlobals "CREATE" = some (some (.int 0 t_CREATE)))
    (g_FUNNEL : PySem.W.nsIn K mainGlobals "FUNNEL" = some (some (.int 17 t_FUNNEL)))
    (g_MOST_NAMES : PySem.W.nsIn K mainGlobals "MOST_NAMES" = some (some (.int 6 t_MOST_NAMES)))
    (g_ABSENT : PySem.W.nsIn K mainGlobals "ABSENT" = some (some (.ref ab)))
    (l_ABSENT : K.lookup ab = some ⟨.type "tuple", d_ab, .seq #[.int (-1) ta1, .int (-1) ta2] n_ab, s_ab⟩)
    (g_CONFLICTED : PySem.W.nsIn K mainGlobals "CONFLICTED" = some (some (.ref co)))
    (l_CONFLICTED : K.lookup co = some ⟨.type "tuple", d_co, .seq #[.int (-2) tc1, .int (-2) tc2] n_co, s_co⟩)
    (g_FORMS : PySem.W.nsIn K mainGlobals "FORMS" = some (some (.ref fo)))
    (l_FORMS : K.lookup fo = some ⟨.type "tuple", d_fo, .seq #[.str "t" tf0, .str "n" tf1, .str "iuxvt" tf2, .str "iuewt" tf3, .str "i" tf4, .str "t" tf5, .str "t" tf6, .str "" tf7, .str "" tf8, .str "n" tf9, .str "i" tf10, .str "xu" tf11, .str "x" tf12, .str "xv" tf13, .str "x" tf14, .str "xuyecd" tf15, .str "xvyecd" tf16, .str "xv" tf17, .str "xvdp" tf18, .str "ug" tf19, .str "u" tf20, .str "xx" tf21, .str "xx" tf22, .str "" tf23] n_fo, s_fo⟩)
    (g_LEAST_ONE : PySem.W.nsIn K mainGlobals "LEAST_ONE" = some (some (.ref le)))
    (l_LEAST_ONE : K.lookup le = some ⟨.type "tuple", d_le, .seq #[.str "d" tl1, .str "p" tl2] n_le, s_le⟩)
    (g_MOST : PySem.W.nsIn K mainGlobals "MOST" = some (some (.ref mo)))
    (l_MOST : K.lookup mo = some ⟨.type "dict", none, .dict es nMo, #[]⟩)
    (k_MOST : PySem.W.KeysLit w.params es.toList)
    (m_i : PySem.W.nsIn K mo "i" = some (some (.int 999 tm_i)))
    (m_u : PySem.W.nsIn K mo "u" = some (some (.int 99 tm_u)))
    (m_x : PySem.W.nsIn K mo "x" = some (some (.int 7 tm_x)))
    (m_v : PySem.W.nsIn K mo "v" = some (some (.int 3 tm_v)))
    (m_e : PySem.W.nsIn K mo "e" = some (some (.int 9 tm_e)))
    (m_w : PySem.W.nsIn K mo "w" = some (some (.int 10000 tm_w)))
    (m_t : PySem.W.nsIn K mo "t" = some (some (.int 100000 tm_t)))
    (m_y : PySem.W.nsIn K mo "y" = some (some (.int 2 tm_y)))
    (m_c : PySem.W.nsIn K mo "c" = some (some (.int 100000 tm_c)))
    (m_d : PySem.W.nsIn K mo "d" = some (some (.int 100000 tm_d)))
    (m_p : PySem.W.nsIn K mo "p" = some (some (.int 10 tm_p)))
    (m_g : PySem.W.nsIn K mo "g" = some (some (.int 100000 tm_g)))
    (m_n : PySem.W.nsIn K mo "n" = some (some (.int 4294967295 tm_n)))
    (g_DEEDS : PySem.W.nsIn K mainGlobals "DEEDS" = some (some (.ref de)))
    (n_len : PySem.W.nsIn K mainGlobals "len" = some none)
    (n_list : PySem.W.nsIn K mainGlobals "list" = some none)
    (n_sorted : PySem.W.nsIn K mainGlobals "sorted" = some none)
    (n_any : PySem.W.nsIn K mainGlobals "any" = some none)
    (n_all : PySem.W.nsIn K mainGlobals "all" = some none)
    (n_sum : PySem.W.nsIn K mainGlobals "sum" = some none)
    (n_min : PySem.W.nsIn K mainGlobals "min" = some none)
    (n_max : PySem.W.nsIn K mainGlobals "max" = some none)
    (n_enumerate : PySem.W.nsIn K mainGlobals "enumerate" = some none)
    (n_range : PySem.W.nsIn K mainGlobals "range" = some none)
    (n_zip : PySem.W.nsIn K mainGlobals "zip" = some none)
    : Txt K w mg ⟨cE, cL, ab, co, fo, mo, le, de⟩ where
  clE := ⟨pgE, hdE, poE, saE⟩
  nE1 := nE1
  nE2 := nE2
  nE3 := nE3
  clL := ⟨pgL, hdL, poL, saL⟩
  nL1 := nL1
  nL2 := nL2
  nL3 := nL3
  nL4 := nL4
  g_EXPOSURE := ⟨_, PySem.W.mg_of X G g_EXPOSURE⟩
  g_EVENT := ⟨_, PySem.W.mg_of X G g_EVENT⟩
  g_RETRACTION := ⟨_, PySem.W.mg_of X G g_RETRACTION⟩
  g_NO_HORIZON := ⟨_, PySem.W.mg_of X G g_NO_HORIZON⟩
  g_MOST_CLOCK := ⟨_, PySem.W.mg_of X G g_MOST_CLOCK⟩
  g_MOST_ENTRIES := ⟨_, PySem.W.mg_of X G g_MOST_ENTRIES⟩
  g_CREATE := ⟨_, PySem.W.mg_of X G g_CREATE⟩
  g_FUNNEL := ⟨_, PySem.W.mg_of X G g_FUNNEL⟩
  g_MOST_NAMES := ⟨_, PySem.W.mg_of X G g_MOST_NAMES⟩
  g_ABSENT := PySem.W.mg_of X G g_ABSENT
  g_CONFLICTED := PySem.W.mg_of X G g_CONFLICTED
  g_FORMS := PySem.W.mg_of X G g_FORMS
  g_MOST := PySem.W.mg_of X G g_MOST
  g_LEAST_ONE := PySem.W.mg_of X G g_LEAST_ONE
  g_DEEDS := PySem.W.mg_of X G g_DEEDS
  tAb := fun H => .inr ⟨_, _, _, l_ABSENT, rfl, rfl, by show 2 ≤ sizeLine; decide, (.cons ⟨_, rfl⟩ (.cons ⟨_, rfl⟩ (.nil)))⟩
  tCo := fun H => .inr ⟨_, _, _, l_CONFLICTED, rfl, rfl, by show 2 ≤ sizeLine; decide, (.cons ⟨_, rfl⟩ (.cons ⟨_, rfl⟩ (.nil)))⟩
  tFo := fun H => .inr ⟨_, _, _, l_FORMS, rfl, rfl, by show 24 ≤ sizeLine; decide, (.cons ⟨_, by rw [sx_t]⟩ (.cons ⟨_, by rw [sx_n]⟩ (.cons ⟨_, by rw [sx_iuxvt]⟩ (.cons ⟨_, by rw [sx_iuewt]⟩ (.cons ⟨_, by rw [sx_i]⟩ (.cons ⟨_, by rw [sx_t]⟩ (.cons ⟨_, by rw [sx_t]⟩ (.cons ⟨_, by rw [sx_none]⟩ (.cons ⟨_, by rw [sx_none]⟩ (.cons ⟨_, by rw [sx_n]⟩ (.cons ⟨_, by rw [sx_i]⟩ (.cons ⟨_, by rw [sx_xu]⟩ (.cons ⟨_, by rw [sx_x]⟩ (.cons ⟨_, by rw [sx_xv]⟩ (.cons ⟨_, by rw [sx_x]⟩ (.cons ⟨_, by rw [sx_xuyecd]⟩ (.cons ⟨_, by rw [sx_xvyecd]⟩ (.cons ⟨_, by rw [sx_xv]⟩ (.cons ⟨_, by rw [sx_xvdp]⟩ (.cons ⟨_, by rw [sx_ug]⟩ (.cons ⟨_, by rw [sx_u]⟩ (.cons ⟨_, by rw [sx_xx]⟩ (.cons ⟨_, by rw [sx_xx]⟩ (.cons ⟨_, by rw [sx_none]⟩ (.nil)))))))))))))))))))))))))⟩
  tLe := fun H => .inr ⟨_, _, _, l_LEAST_ONE, rfl, rfl, by show 2 ≤ sizeLine; decide, (.cons ⟨_, by rw [sx_d]⟩ (.cons ⟨_, by rw [sx_p]⟩ (.nil)))⟩
  tMo := fun p hp => by
    simp only [mostL, List.mem_cons, List.not_mem_nil, or_false] at hp
    rcases hp with rfl | rfl | rfl | rfl | rfl | rfl | rfl | rfl | rfl | rfl | rfl | rfl | rfl
    · exact ⟨es, nMo, _, l_MOST, k_MOST, by rw [← sx_i]; exact m_i, _, rfl⟩
    · exact ⟨es, nMo, _, l_MOST, k_MOST, by rw [← sx_u]; exact m_u, _, rfl⟩
    · exact ⟨es, nMo, _, l_MOST, k_MOST, by rw [← sx_x]; exact m_x, _, rfl⟩
    · exact ⟨es, nMo, _, l_MOST, k_MOST, by rw [← sx_v]; exact m_v, _, rfl⟩
    · exact ⟨es, nMo, _, l_MOST, k_MOST, by rw [← sx_e]; exact m_e, _, rfl⟩
    · exact ⟨es, nMo, _, l_MOST, k_MOST, by rw [← sx_w]; exact m_w, _, rfl⟩
    · exact ⟨es, nMo, _, l_MOST, k_MOST, by rw [← sx_t]; exact m_t, _, rfl⟩
    · exact ⟨es, nMo, _, l_MOST, k_MOST, by rw [← sx_y]; exact m_y, _, rfl⟩
    · exact ⟨es, nMo, _, l_MOST, k_MOST, by rw [← sx_c]; exact m_c, _, rfl⟩
    · exact ⟨es, nMo, _, l_MOST, k_MOST, by rw [← sx_d]; exact m_d, _, rfl⟩
    · exact ⟨es, nMo, _, l_MOST, k_MOST, by rw [← sx_p]; exact m_p, _, rfl⟩
    · exact ⟨es, nMo, _, l_MOST, k_MOST, by rw [← sx_g]; exact m_g, _, rfl⟩
    · exact ⟨es, nMo, _, l_MOST, k_MOST, by rw [← sx_n]; exact m_n, _, rfl⟩
  n_len := PySem.W.mg_none_of X G n_len
  n_list := PySem.W.mg_none_of X G n_list
  n_sorted := PySem.W.mg_none_of X G n_sorted
  n_any := PySem.W.mg_none_of X G n_any
  n_all := PySem.W.mg_none_of X G n_all
  n_sum := PySem.W.mg_none_of X G n_sum
  n_min := PySem.W.mg_none_of X G n_min
  n_max := PySem.W.mg_none_of X G n_max
  n_enumerate := PySem.W.mg_none_of X G n_enumerate
  n_range := PySem.W.mg_none_of X G n_range
  n_zip := PySem.W.mg_none_of X G n_zip
theorem all_mk {fa : Addr} {cE cL ab co fo mo le de : Addr} {f_advance f_expose f_record_event f_retract f_set_lateness f_set_horizon f_clear_horizon f_counts f_get_record f_effective f_first_exposure f_tell_participants f_units_of_variant f_conflicted f_value f_totals f_funnel f_retention f_sessions f_timeline f_shared f_cross_counts f_summary : Addr} {dD : Option Addr} {nD : Nat} {sD : Array (Option Value)} (hfa : mg "answers" = some (.ref fa)) (T : Txt K w mg ⟨cE, cL, ab, co, fo, mo, le, de⟩)
    (I_Entry : InitA K mg "Entry" "Entry.__init__" s_Entry_init ["self", "number", "arrival", "content"] cE) (I_Ledger : InitA K mg "Ledger" "Ledger.__init__" s_Ledger_init ["self", "lateness"] cL)
    (F_kind_of : FunH K mg "kind_of" s_kind_of ["entry"])
    (F_counting : FunH K mg "counting" s_counting ["ledger"])
    (F_is_late : FunH K mg "is_late" s_is_late ["ledger", "entry"])
    (F_retracted_numbers : FunH K mg "retracted_numbers" s_retracted_numbers ["ledger"])
    (F_effective_of : FunH K mg "effective_of" s_effective_of ["ledger"])
    (F_effective_rows : FunH K mg "effective_rows" s_effective_rows ["ledger"])
    (F_unit_rows : FunH K mg "unit_rows" s_unit_rows ["ledger", "unit"])
    (F_event_rows : FunH K mg "event_rows" s_event_rows ["rows"])
    (F_exposure_rows : FunH K mg "exposure_rows" s_exposure_rows ["rows", "experiment"])
    (F_participation : FunH K mg "participation" s_participation ["rows", "experiment"])
    (F_rows_by_unit : FunH K mg "rows_by_unit" s_rows_by_unit ["ledger"])
    (F_standings : FunH K mg "standings" s_standings ["ledger", "experiment"])
    (F_participants : FunH K mg "participants" s_participants ["ledger", "experiment"])
    (F_metric_value : FunH K mg "metric_value" s_metric_value ["rows", "start", "metric"])
    (F_variant_units : FunH K mg "variant_units" s_variant_units ["ledger", "experiment", "variant"])
    (F_next_time : FunH K mg "next_time" s_next_time ["rows", "name", "start"])
    (F_funnel_depth : FunH K mg "funnel_depth" s_funnel_depth ["rows", "start", "names"])
    (F_is_active : FunH K mg "is_active" s_is_active ["rows", "start", "length", "period"])
    (F_session_sizes : FunH K mg "session_sizes" s_session_sizes ["rows", "gap"])
    (F_with_count : FunH K mg "with_count" s_with_count ["row"])
    (F_stored : FunH K mg "stored" s_stored ["ledger", "number", "content"])
    (F_is_fit : FunH K mg "is_fit" s_is_fit ["form", "number"])
    (F_are_names : FunH K mg "are_names" s_are_names ["names"])
    (F_answer : FunH K mg "answer" s_answer ["ledger", "call", "numbers", "names"])
    (F_advance : FunA K mg "advance" s_advance ["ledger", "numbers", "names"] f_advance)
    (F_expose : FunA K mg "expose" s_expose ["ledger", "numbers", "names"] f_expose)
    (F_record_event : FunA K mg "record_event" s_record_event ["ledger", "numbers", "names"] f_record_event)
    (F_retract : FunA K mg "retract" s_retract ["ledger", "numbers", "names"] f_retract)
    (F_set_lateness : FunA K mg "set_lateness" s_set_lateness ["ledger", "numbers", "names"] f_set_lateness)
    (F_set_horizon : FunA K mg "set_horizon" s_set_horizon ["ledger", "numbers", "names"] f_set_horizon)
    (F_clear_horizon : FunA K mg "clear_horizon" s_clear_horizon ["ledger", "numbers", "names"] f_clear_horizon)
    (F_counts : FunA K mg "counts" s_counts ["ledger", "numbers", "names"] f_counts)
    (F_get_record : FunA K mg "get_record" s_get_record ["ledger", "numbers", "names"] f_get_record)
    (F_effective : FunA K mg "effective" s_effective ["ledger", "numbers", "names"] f_effective)
    (F_first_exposure : FunA K mg "first_exposure" s_first_exposure ["ledger", "numbers", "names"] f_first_exposure)
    (F_tell_participants : FunA K mg "tell_participants" s_tell_participants ["ledger", "numbers", "names"] f_tell_participants)
    (F_units_of_variant : FunA K mg "units_of_variant" s_units_of_variant ["ledger", "numbers", "names"] f_units_of_variant)
    (F_conflicted : FunA K mg "conflicted" s_conflicted ["ledger", "numbers", "names"] f_conflicted)
    (F_value : FunA K mg "value" s_value ["ledger", "numbers", "names"] f_value)
    (F_totals : FunA K mg "totals" s_totals ["ledger", "numbers", "names"] f_totals)
    (F_funnel : FunA K mg "funnel" s_funnel ["ledger", "numbers", "names"] f_funnel)
    (F_retention : FunA K mg "retention" s_retention ["ledger", "numbers", "names"] f_retention)
    (F_sessions : FunA K mg "sessions" s_sessions ["ledger", "numbers", "names"] f_sessions)
    (F_timeline : FunA K mg "timeline" s_timeline ["ledger", "numbers", "names"] f_timeline)
    (F_shared : FunA K mg "shared" s_shared ["ledger", "numbers", "names"] f_shared)
    (F_cross_counts : FunA K mg "cross_counts" s_cross_counts ["ledger", "numbers", "names"] f_cross_counts)
    (F_summary : FunA K mg "summary" s_summary ["ledger", "numbers", "names"] f_summary)
    (lD : K.lookup de = some ⟨.type "tuple", dD, .seq #[.none, .ref f_advance, .ref f_expose, .ref f_record_event, .ref f_retract, .ref f_set_lateness, .ref f_set_horizon, .ref f_clear_horizon, .ref f_counts, .ref f_get_record, .ref f_effective, .ref f_first_exposure, .ref f_tell_participants, .ref f_units_of_variant, .ref f_conflicted, .ref f_value, .ref f_totals, .ref f_funnel, .ref f_retention, .ref f_sessions, .ref f_timeline, .ref f_shared, .ref f_cross_counts, .ref f_summary] nD, sD⟩) {f0 : Addr} (F_answers : FunA K mg "answers" s_answers ["calls"] f0) :
    ∃ fd : FuncData, (∀ (s : Shared) (us : List Value), us.length = (["calls"] : List Str).length → BindsTo s fd ⟨us, []⟩ ((["calls"] : List Str).zip us)) ∧ ∀ base : Heap, K.In base → base.Ns mainGlobals mg → FnOk P w K mg base CX0 12 fa fd ["calls"] (spAnswers K) := by
  obtain ⟨fd0, a0, F0, B0⟩ := F_answers
  rw [hfa] at a0
  cases a0
  have fx := F0.ex
  obtain ⟨oc, od, kV, doc, pm, an, cdv, ct, osl, e0, lk, hcd⟩ := fx
  refine ⟨fd0, fun s us hu => by subst e0; exact match us, hu with | [_], _ => .of_eq rfl, fun base _ _ => ?_⟩
  obtain ⟨fE, fdE, aE, mE, FE, bE⟩ := I_Entry
  obtain ⟨fL, fdL, aL, mL, FL, bL⟩ := I_Ledger
  have G_Entry : HasC P w K mg base 1 "Entry" cE (spEntry ⟨cE, cL, ab, co, fo, mo, le, de⟩) := ⟨fE, fdE, _, aE, mE, bE, ok_Entry T FE⟩
  have G_Ledger : HasC P w K mg base 1 "Ledger" cL (spLedger ⟨cE, cL, ab, co, fo, mo, le, de⟩) := ⟨fL, fdL, _, aL, mL, bL, ok_Ledger T FL⟩
  have G_kind_of := ok_kind_of (P := P) (base := base) T F_kind_of 
  have G_counting := ok_counting (P := P) (base := base) T F_counting 
  have G_is_late := ok_is_late (P := P) (base := base) T F_is_late G_kind_of
  have G_retracted_numbers := ok_retracted_numbers (P := P) (base := base) T F_retracted_numbers G_kind_of G_counting
  have G_effective_of := ok_effective_of (P := P) (base := base) T F_effective_of G_kind_of G_counting G_is_late G_retracted_numbers
  have G_effective_rows := ok_effective_rows (P := P) (base := base) T F_effective_rows G_effective_of
  have G_unit_rows := ok_unit_rows (P := P) (base := base) T F_unit_rows G_effective_rows
  have G_event_rows := ok_event_rows (P := P) (base := base) T F_event_rows 
  have G_exposure_rows := ok_exposure_rows (P := P) (base := base) T F_exposure_rows 
  have G_participation := ok_participation (P := P) (base := base) T F_participation G_exposure_rows
  have G_rows_by_unit := ok_rows_by_unit (P := P) (base := base) T F_rows_by_unit G_effective_rows
  have G_standings := ok_standings (P := P) (base := base) T F_standings G_rows_by_unit G_participation
  have G_participants := ok_participants (P := P) (base := base) T F_participants G_standings
  have G_metric_value := ok_metric_value (P := P) (base := base) T F_metric_value G_event_rows
  have G_variant_units := ok_variant_units (P := P) (base := base) T F_variant_units G_rows_by_unit G_participants
  have G_next_time := ok_next_time (P := P) (base := base) T F_next_time G_event_rows
  have G_funnel_depth := ok_funnel_depth (P := P) (base := base) T F_funnel_depth G_next_time
  have G_is_active := ok_is_active (P := P) (base := base) T F_is_active G_event_rows
  have G_session_sizes := ok_session_sizes (P := P) (base := base) T F_session_sizes 
  have G_with_count := ok_with_count (P := P) (base := base) T F_with_count 
  have G_stored := ok_stored (P := P) (base := base) T F_stored G_Entry
  have G_is_fit := ok_is_fit (P := P) (base := base) T F_is_fit 
  have G_are_names := ok_are_names (P := P) (base := base) T F_are_names G_is_fit
  have G_advance := ok_advance (P := P) (base := base) T (fun_of F_advance) 
  have G_expose := ok_expose (P := P) (base := base) T (fun_of F_expose) G_stored
  have G_record_event := ok_record_event (P := P) (base := base) T (fun_of F_record_event) G_stored
  have G_retract := ok_retract (P := P) (base := base) T (fun_of F_retract) G_stored
  have G_set_lateness := ok_set_lateness (P := P) (base := base) T (fun_of F_set_lateness) 
  have G_set_horizon := ok_set_horizon (P := P) (base := base) T (fun_of F_set_horizon) G_counting
  have G_clear_horizon := ok_clear_horizon (P := P) (base := base) T (fun_of F_clear_horizon) 
  have G_counts := ok_counts (P := P) (base := base) T (fun_of F_counts) G_kind_of G_counting G_is_late G_retracted_numbers G_effective_of
  have G_get_record := ok_get_record (P := P) (base := base) T (fun_of F_get_record) 
  have G_effective := ok_effective (P := P) (base := base) T (fun_of F_effective) G_effective_of
  have G_first_exposure := ok_first_exposure (P := P) (base := base) T (fun_of F_first_exposure) G_participation G_unit_rows
  have G_tell_participants := ok_tell_participants (P := P) (base := base) T (fun_of F_tell_participants) G_with_count G_participants
  have G_units_of_variant := ok_units_of_variant (P := P) (base := base) T (fun_of F_units_of_variant) G_with_count G_participants
  have G_conflicted := ok_conflicted (P := P) (base := base) T (fun_of F_conflicted) G_with_count G_standings
  have G_value := ok_value (P := P) (base := base) T (fun_of F_value) G_participation G_unit_rows G_metric_value
  have G_totals := ok_totals (P := P) (base := base) T (fun_of F_totals) G_variant_units G_metric_value
  have G_funnel := ok_funnel (P := P) (base := base) T (fun_of F_funnel) G_variant_units G_funnel_depth
  have G_retention := ok_retention (P := P) (base := base) T (fun_of F_retention) G_variant_units G_is_active
  have G_sessions := ok_sessions (P := P) (base := base) T (fun_of F_sessions) G_session_sizes G_unit_rows
  have G_timeline := ok_timeline (P := P) (base := base) T (fun_of F_timeline) G_unit_rows
  have G_shared := ok_shared (P := P) (base := base) T (fun_of F_shared) G_with_count G_participants
  have G_cross_counts := ok_cross_counts (P := P) (base := base) T (fun_of F_cross_counts) G_participants
  have G_summary := ok_summary (P := P) (base := base) T (fun_of F_summary) 
  have Dt : DeedsAt P w K mg base ⟨cE, cL, ab, co, fo, mo, le, de⟩ [f_advance, f_expose, f_record_event, f_retract, f_set_lateness, f_set_horizon, f_clear_horizon, f_counts, f_get_record, f_effective, f_first_exposure, f_tell_participants, f_units_of_variant, f_conflicted, f_value, f_totals, f_funnel, f_retention, f_sessions, f_timeline, f_shared, f_cross_counts, f_summary] := ⟨rfl, fun H => .inr ⟨_, _, _, lD, rfl, rfl, by show 24 ≤ sizeLine; decide, (.cons rfl (.cons rfl (.cons rfl (.cons rfl (.cons rfl (.cons rfl (.cons rfl (.cons rfl (.cons rfl (.cons rfl (.cons rfl (.cons rfl (.cons rfl (.cons rfl (.cons rfl (.cons rfl (.cons rfl (.cons rfl (.cons rfl (.cons rfl (.cons rfl (.cons rfl (.cons rfl (.cons rfl (.nil)))))))))))))))))))))))))⟩, fun i f hi => ?_⟩
  · exact ok_answers T F0 G_is_fit (ok_answer T Dt F_answer G_is_fit G_are_names) G_Ledger
  · match i, hi with
    | 0, hi =>
      cases hi
      exact held_of F_advance G_advance
    | 1, hi =>
      cases hi
      exact held_of F_expose G_expose
    | 2, hi =>
      cases hi
      exact held_of F_record_event G_record_event
    | 3, hi =>
      cases hi
      exact held_of F_retract G_retract
    | 4, hi =>
      cases hi
      exact held_of F_set_lateness G_set_lateness
    | 5, hi =>
      cases hi
      exact held_of F_set_horizon G_set_horizon
    | 6, hi =>
      cases hi
      exact held_of F_clear_horizon G_clear_horizon
    | 7, hi =>
      cases hi
      exact held_of F_counts G_counts
    | 8, hi =>
      cases hi
      exact held_of F_get_record G_get_record
    | 9, hi =>
      cases hi
      exact held_of F_effective G_effective
    | 10, hi =>
      cases hi
      exact held_of F_first_exposure G_first_exposure
    | 11, hi =>
      cases hi
      exact held_of F_tell_participants G_tell_participants
    | 12, hi =>
      cases hi
      exact held_of F_units_of_variant G_units_of_variant
    | 13, hi =>
      cases hi
      exact held_of F_conflicted G_conflicted
    | 14, hi =>
      cases hi
      exact held_of F_value G_value
    | 15, hi =>
      cases hi
      exact held_of F_totals G_totals
    | 16, hi =>
      cases hi
      exact held_of F_funnel G_funnel
    | 17, hi =>
      cases hi
      exact held_of F_retention G_retention
    | 18, hi =>
      cases hi
      exact held_of F_sessions G_sessions
    | 19, hi =>
      cases hi
      exact held_of F_timeline G_timeline
    | 20, hi =>
      cases hi
      exact held_of F_shared G_shared
    | 21, hi =>
      cases hi
      exact held_of F_cross_counts G_cross_counts
    | 22, hi =>
      cases hi
      exact held_of F_summary G_summary
    | n + 23, hi => cases hi
end
end Late
open PySem PySem.W PyProof.Rows
set_option maxRecDepth 100000 in
set_option maxHeartbeats 8000000 in
theorem PySem.Challenge.cw_lateledger_s01_answers_holds : PySem.Challenge.rw_lateledger_s01_answers.Holds := by
  w_on; k_headS; (case hw => exact ⟨[.list [.int 23]], by decide +kernel, by decide +kernel⟩)
  k_fillS
  refine L2.walk_specK (r := PySem.Challenge.rw_lateledger_s01_answers) (k := 12) (CX := L2.CX0) (ps := ["calls"]) (sp := Late.spAnswers) (by decide +kernel) rfl rfl ⟨rfl, by decide, by decide⟩ (fun w h Y => PySem.W.kIn_of Y) ?F ?S (fun _ _ _ _ z => z)
  case F =>
    intro w mg fa h Y KX G hmg
    refine' Late.all_mk hmg ?T ?I_Entry ?I_Ledger ?F_kind_of ?F_counting ?F_is_late ?F_retracted_numbers ?F_effective_of ?F_effective_rows ?F_unit_rows ?F_event_rows ?F_exposure_rows ?F_participation ?F_rows_by_unit ?F_standings ?F_participants ?F_metric_value ?F_variant_units ?F_next_time ?F_funnel_depth ?F_is_active ?F_session_sizes ?F_with_count ?F_stored ?F_is_fit ?F_are_names ?F_answer ?F_advance ?F_expose ?F_record_event ?F_retract ?F_set_lateness ?F_set_horizon ?F_clear_horizon ?F_counts ?F_get_record ?F_effective ?F_first_exposure ?F_tell_participants ?F_units_of_variant ?F_conflicted ?F_value ?F_totals ?F_funnel ?F_retention ?F_sessions ?F_timeline ?F_shared ?F_cross_counts ?F_summary ?lD ?F_answers
    (case I_Entry => refine' Late.ia_Entry KX G ?aC ?a ?i ?l ?c ?k ?mk ?kc; (case aC => k_is); (case a => k_is); (case i => k_is); (case l => k_is); (case c => k_is); (case k => k_is); (case mk => k_is); (case kc => k_is))
    (case I_Ledger => refine' Late.ia_Ledger KX G ?aC ?a ?i ?l ?c ?k ?mk ?kc; (case aC => k_is); (case a => k_is); (case i => k_is); (case l => k_is); (case c => k_is); (case k => k_is); (case mk => k_is); (case kc => k_is))
    (case F_kind_of => refine' Late.fun_of (Late.fa_kind_of KX G ?a ?l ?c ?k); (case a => k_is); (case l => k_is); (case c => k_is); (case k => k_is))
    (case F_counting => refine' Late.fun_of (Late.fa_counting KX G ?a ?l ?c ?k); (case a => k_is); (case l => k_is); (case c => k_is); (case k => k_is))
    (case F_is_late => refine' Late.fun_of (Late.fa_is_late KX G ?a ?l ?c ?k); (case a => k_is); (case l => k_is); (case c => k_is); (case k => k_is))
    (case F_retracted_numbers => refine' Late.fun_of (Late.fa_retracted_numbers KX G ?a ?l ?c ?k); (case a => k_is); (case l => k_is); (case c => k_is); (case k => k_is))
    (case F_effective_of => refine' Late.fun_of (Late.fa_effective_of KX G ?a ?l ?c ?k); (case a => k_is); (case l => k_is); (case c => k_is); (case k => k_is))
    (case F_effective_rows => refine' Late.fun_of (Late.fa_effective_rows KX G ?a ?l ?c ?k); (case a => k_is); (case l => k_is); (case c => k_is); (case k => k_is))
    (case F_unit_rows => refine' Late.fun_of (Late.fa_unit_rows KX G ?a ?l ?c ?k); (case a => k_is); (case l => k_is); (case c => k_is); (case k => k_is))
    (case F_event_rows => refine' Late.fun_of (Late.fa_event_rows KX G ?a ?l ?c ?k); (case a => k_is); (case l => k_is); (case c => k_is); (case k => k_is))
    (case F_exposure_rows => refine' Late.fun_of (Late.fa_exposure_rows KX G ?a ?l ?c ?k); (case a => k_is); (case l => k_is); (case c => k_is); (case k => k_is))
    (case F_participation => refine' Late.fun_of (Late.fa_participation KX G ?a ?l ?c ?k); (case a => k_is); (case l => k_is); (case c => k_is); (case k => k_is))
    (case F_rows_by_unit => refine' Late.fun_of (Late.fa_rows_by_unit KX G ?a ?l ?c ?k); (case a => k_is); (case l => k_is); (case c => k_is); (case k => k_is))
    (case F_standings => refine' Late.fun_of (Late.fa_standings KX G ?a ?l ?c ?k); (case a => k_is); (case l => k_is); (case c => k_is); (case k => k_is))
    (case F_participants => refine' Late.fun_of (Late.fa_participants KX G ?a ?l ?c ?k); (case a => k_is); (case l => k_is); (case c => k_is); (case k => k_is))
    (case F_metric_value => refine' Late.fun_of (Late.fa_metric_value KX G ?a ?l ?c ?k); (case a => k_is); (case l => k_is); (case c => k_is); (case k => k_is))
    (case F_variant_units => refine' Late.fun_of (Late.fa_variant_units KX G ?a ?l ?c ?k); (case a => k_is); (case l => k_is); (case c => k_is); (case k => k_is))
    (case F_next_time => refine' Late.fun_of (Late.fa_next_time KX G ?a ?l ?c ?k); (case a => k_is); (case l => k_is); (case c => k_is); (case k => k_is))
    (case F_funnel_depth => refine' Late.fun_of (Late.fa_funnel_depth KX G ?a ?l ?c ?k); (case a => k_is); (case l => k_is); (case c => k_is); (case k => k_is))
    (case F_is_active => refine' Late.fun_of (Late.fa_is_active KX G ?a ?l ?c ?k); (case a => k_is); (case l => k_is); (case c => k_is); (case k => k_is))
    (case F_session_sizes => refine' Late.fun_of (Late.fa_session_sizes KX G ?a ?l ?c ?k); (case a => k_is); (case l => k_is); (case c => k_is); (case k => k_is))
    (case F_with_count => refine' Late.fun_of (Late.fa_with_count KX G ?a ?l ?c ?k); (case a => k_is); (case l => k_is); (case c => k_is); (case k => k_is))
    (case F_stored => refine' Late.fun_of (Late.fa_stored KX G ?a ?l ?c ?k); (case a => k_is); (case l => k_is); (case c => k_is); (case k => k_is))
    (case F_is_fit => refine' Late.fun_of (Late.fa_is_fit KX G ?a ?l ?c ?k); (case a => k_is); (case l => k_is); (case c => k_is); (case k => k_is))
    (case F_are_names => refine' Late.fun_of (Late.fa_are_names KX G ?a ?l ?c ?k); (case a => k_is); (case l => k_is); (case c => k_is); (case k => k_is))
    (case F_answer => refine' Late.fun_of (Late.fa_answer KX G ?a ?l ?c ?k); (case a => k_is); (case l => k_is); (case c => k_is); (case k => k_is))
    (case F_advance => refine' Late.fa_advance KX G ?a ?l ?c ?k; (case a => k_is); (case l => k_is); (case c => k_is); (case k => k_is))
    (case F_expose => refine' Late.fa_expose KX G ?a ?l ?c ?k; (case a => k_is); (case l => k_is); (case c => k_is); (case k => k_is))
    (case F_record_event => refine' Late.fa_record_event KX G ?a ?l ?c ?k; (case a => k_is); (case l => k_is); (case c => k_is); (case k => k_is))
    (case F_retract => refine' Late.fa_retract KX G ?a ?l ?c ?k; (case a => k_is); (case l => k_is); (case c => k_is); (case k => k_is))
    (case F_set_lateness => refine' Late.fa_set_lateness KX G ?a ?l ?c ?k; (case a => k_is); (case l => k_is); (case c => k_is); (case k => k_is))
    (case F_set_horizon => refine' Late.fa_set_horizon KX G ?a ?l ?c ?k; (case a => k_is); (case l => k_is); (case c => k_is); (case k => k_is))
    (case F_clear_horizon => refine' Late.fa_clear_horizon KX G ?a ?l ?c ?k; (case a => k_is); (case l => k_is); (case c => k_is); (case k => k_is))
    (case F_counts => refine' Late.fa_counts KX G ?a ?l ?c ?k; (case a => k_is); (case l => k_is); (case c => k_is); (case k => k_is))
    (case F_get_record => refine' Late.fa_get_record KX G ?a ?l ?c ?k; (case a => k_is); (case l => k_is); (case c => k_is); (case k => k_is))
    (case F_effective => refine' Late.fa_effective KX G ?a ?l ?c ?k; (case a => k_is); (case l => k_is); (case c => k_is); (case k => k_is))
    (case F_first_exposure => refine' Late.fa_first_exposure KX G ?a ?l ?c ?k; (case a => k_is); (case l => k_is); (case c => k_is); (case k => k_is))
    (case F_tell_participants => refine' Late.fa_tell_participants KX G ?a ?l ?c ?k; (case a => k_is); (case l => k_is); (case c => k_is); (case k => k_is))
    (case F_units_of_variant => refine' Late.fa_units_of_variant KX G ?a ?l ?c ?k; (case a => k_is); (case l => k_is); (case c => k_is); (case k => k_is))
    (case F_conflicted => refine' Late.fa_conflicted KX G ?a ?l ?c ?k; (case a => k_is); (case l => k_is); (case c => k_is); (case k => k_is))
    (case F_value => refine' Late.fa_value KX G ?a ?l ?c ?k; (case a => k_is); (case l => k_is); (case c => k_is); (case k => k_is))
    (case F_totals => refine' Late.fa_totals KX G ?a ?l ?c ?k; (case a => k_is); (case l => k_is); (case c => k_is); (case k => k_is))
    (case F_funnel => refine' Late.fa_funnel KX G ?a ?l ?c ?k; (case a => k_is); (case l => k_is); (case c => k_is); (case k => k_is))
    (case F_retention => refine' Late.fa_retention KX G ?a ?l ?c ?k; (case a => k_is); (case l => k_is); (case c => k_is); (case k => k_is))
    (case F_sessions => refine' Late.fa_sessions KX G ?a ?l ?c ?k; (case a => k_is); (case l => k_is); (case c => k_is); (case k => k_is))
    (case F_timeline => refine' Late.fa_timeline KX G ?a ?l ?c ?k; (case a => k_is); (case l => k_is); (case c => k_is); (case k => k_is))
    (case F_shared => refine' Late.fa_shared KX G ?a ?l ?c ?k; (case a => k_is); (case l => k_is); (case c => k_is); (case k => k_is))
    (case F_cross_counts => refine' Late.fa_cross_counts KX G ?a ?l ?c ?k; (case a => k_is); (case l => k_is); (case c => k_is); (case k => k_is))
    (case F_summary => refine' Late.fa_summary KX G ?a ?l ?c ?k; (case a => k_is); (case l => k_is); (case c => k_is); (case k => k_is))
    (case F_answers => refine' Late.fa_answers KX G ?a ?l ?c ?k; (case a => k_is); (case l => k_is); (case c => k_is); (case k => k_is))
    (case T => refine' Late.txt_mk KX G ?pgE ?hdE ?poE ?saE ?nE1 ?nE2 ?nE3 ?pgL ?hdL ?poL ?saL ?nL1 ?nL2 ?nL3 ?nL4 ?g_EXPOSURE ?g_EVENT ?g_RETRACTION ?g_NO_HORIZON ?g_MOST_CLOCK ?g_MOST_ENTRIES ?g_CREATE ?g_FUNNEL ?g_MOST_NAMES ?g_ABSENT ?l_ABSENT ?g_CONFLICTED ?l_CONFLICTED ?g_FORMS ?l_FORMS ?g_LEAST_ONE ?l_LEAST_ONE ?g_MOST ?l_MOST ?k_MOST ?m_i ?m_u ?m_x ?m_v ?m_e ?m_w ?m_t ?m_y ?m_c ?m_d ?m_p ?m_g ?m_n ?g_DEEDS ?n_len ?n_list ?n_sorted ?n_any ?n_all ?n_sum ?n_min ?n_max ?n_enumerate ?n_range ?n_zip
               (case pgE => k_is)
               (case hdE => k_is)
               (case poE => k_is)
               (case saE => k_is)
               (case nE1 => k_is)
               (case nE2 => k_is)
               (case nE3 => k_is)
               (case pgL => k_is)
               (case hdL => k_is)
               (case poL => k_is)
               (case saL => k_is)
               (case nL1 => k_is)
               (case nL2 => k_is)
               (case nL3 => k_is)
               (case nL4 => k_is)
               (case g_EXPOSURE => k_is)
               (case g_EVENT => k_is)
               (case g_RETRACTION => k_is)
               (case g_NO_HORIZON => k_is)
               (case g_MOST_CLOCK => k_is)
               (case g_MOST_ENTRIES => k_is)
               (case g_CREATE => k_is)
               (case g_FUNNEL => k_is)
               (case g_MOST_NAMES => k_is)
               (case g_ABSENT => k_is)
               (case l_ABSENT => k_is)
               (case g_CONFLICTED => k_is)
               (case l_CONFLICTED => k_is)
               (case g_FORMS => k_is)
               (case l_FORMS => k_is)
               (case g_LEAST_ONE => k_is)
               (case l_LEAST_ONE => k_is)
               (case g_MOST => k_is)
               (case l_MOST => k_is)
               (case k_MOST => k_keys)
               (case m_i => k_is)
               (case m_u => k_is)
               (case m_x => k_is)
               (case m_v => k_is)
               (case m_e => k_is)
               (case m_w => k_is)
               (case m_t => k_is)
               (case m_y => k_is)
               (case m_c => k_is)
               (case m_d => k_is)
               (case m_p => k_is)
               (case m_g => k_is)
               (case m_n => k_is)
               (case g_DEEDS => k_is)
               (case n_len => k_is)
               (case n_list => k_is)
               (case n_sorted => k_is)
               (case n_any => k_is)
               (case n_all => k_is)
               (case n_sum => k_is)
               (case n_min => k_is)
               (case n_max => k_is)
               (case n_enumerate => k_is)
               (case n_range => k_is)
               (case n_zip => k_is))
    (case lD => k_is)
  case S =>
    intro K H xs a hO hwi hask hx
    cases hx with
    | cons h1 h2 =>
      cases h2
      cases h1 with
      | lst hs ha =>
        have e := L2.ints_dw a.1 _ ha
        subst e
        exact ⟨_, a.1, rfl, hs, hask, fun H' p hp => .lst (L2.SqL.of hp) (L2.dw_ints _)⟩

